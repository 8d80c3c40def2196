import PyProof.Rows.All
import HandS.ForMost
import HandS.Walk
import HandS.Zip
import HandS.IsInst
import HandS.SortInts
import HandS.TupAny
import HandS.TupMul
import HandS.Conv
import HandS.Style
import HandS.Deep
import KE.KTupSum
import HandS.RevRange
import HandS.SortRule
import KE.GoesMore
import KE.GoesEnum
import KE.GoesZip
import HandS.Ends
import Wide.All
import OpenK.AllK
import Wide.FinOn
import PySem.Challenge.RW_loadswait_k10_whole_cars_boilers_stores
set_option Elab.async false
set_option linter.all false
set_option maxRecDepth 100000
/-! A layer of plain data over the hand layer: tuples and finished lists are Lean values, lists under work stand in a small store. -/
namespace DL
open PySem PySem.Spec PyProof.Rows L2

/-! ### data and the store -/
inductive D where
  | non | bl (b : Bool) | int (i : Int) | str (s : Str) | tup (xs : List D) | lst (xs : List D) | scr (ns : List Int) | ref (a : Addr)
inductive MO where
  | lst (xs : List D)
structure Mem where
  fn : Addr → Option MO
  fin : ∃ n : Nat, ∀ a : Nat, n ≤ a → fn a = none
instance : CoeFun Mem fun _ => Addr → Option MO := ⟨Mem.fn⟩
theorem Mem.ext' {M M' : Mem} (h : ∀ a, M a = M' a) : M = M' := by
  cases M with
  | mk f p =>
    cases M' with
    | mk g q =>
      have e : f = g := funext h
      subst e
      rfl
def mnil : Mem := ⟨fun _ => none, 0, fun _ _ => rfl⟩
def mset (M : Mem) (a : Addr) (o : MO) : Mem := ⟨fun b => if b = a then some o else M b, by
  obtain ⟨n, h⟩ := M.fin
  refine ⟨max n ((a : Nat) + 1), fun b hb => ?_⟩
  have h1 : n ≤ b := Nat.le_trans (Nat.le_max_left _ _) hb
  have h2 : (a : Nat) + 1 ≤ b := Nat.le_trans (Nat.le_max_right _ _) hb
  show (if b = a then some o else M b) = none
  rw [if_neg (fun e => by rw [e] at h2; exact absurd h2 (Nat.not_succ_le_self _))]
  exact h b h1⟩
def mdel (M : Mem) (a : Addr) : Mem := ⟨fun b => if b = a then none else M b, by
  obtain ⟨n, h⟩ := M.fin
  refine ⟨n, fun b hb => ?_⟩
  show (if b = a then none else M b) = none
  split
  · rfl
  · exact h b hb⟩
def mcut (M0 M : Mem) : Mem := ⟨fun b => if M0 b = none then none else M b, by
  obtain ⟨n, h⟩ := M.fin
  refine ⟨n, fun b hb => ?_⟩
  show (if M0 b = none then none else M b) = none
  split
  · rfl
  · exact h b hb⟩
theorem mset_eq (M : Mem) (a : Addr) (o : MO) : mset M a o a = some o := if_pos rfl
theorem mset_ne {M : Mem} {a b : Addr} {o : MO} (h : b ≠ a) : mset M a o b = M b := if_neg h
theorem mdel_eq (M : Mem) (a : Addr) : mdel M a a = none := if_pos rfl
theorem mdel_ne {M : Mem} {a b : Addr} (h : b ≠ a) : mdel M a b = M b := if_neg h
theorem mcut_eq (M0 M : Mem) (b : Addr) : mcut M0 M b = if M0 b = none then none else M b := rfl
theorem Mem.fresh (M : Mem) : ∃ p, M p = none := let ⟨n, h⟩ := M.fin; ⟨n, h n (Nat.le_refl n)⟩
theorem mdel_new {M : Mem} {a : Addr} {o : MO} (h : M a = none) : mdel (mset M a o) a = M := Mem.ext' fun b => by
  by_cases e : b = a
  · subst e; rw [mdel_eq, h]
  · rw [mdel_ne e, mset_ne e]
theorem mset_mset (M : Mem) (a : Addr) (o o' : MO) : mset (mset M a o) a o' = mset M a o' := Mem.ext' fun b => by
  by_cases e : b = a
  · subst e; rw [mset_eq, mset_eq]
  · rw [mset_ne e, mset_ne e, mset_ne e]
theorem mset_comm (M : Mem) {a c : Addr} (o o' : MO) (h : a ≠ c) : mset (mset M a o) c o' = mset (mset M c o') a o := Mem.ext' fun b => by
  by_cases e : b = a
  · subst e; rw [mset_eq, mset_ne h, mset_eq]
  · by_cases e2 : b = c
    · subst e2; rw [mset_eq, mset_ne e, mset_eq]
    · rw [mset_ne e2, mset_ne e, mset_ne e, mset_ne e2]
theorem mset_self {M : Mem} {a : Addr} {o : MO} (h : M a = some o) : mset M a o = M := Mem.ext' fun b => by
  by_cases e : b = a
  · subst e; rw [mset_eq, h]
  · rw [mset_ne e]
theorem mdel_mset_ne {M : Mem} {a c : Addr} {o : MO} (h : a ≠ c) : mdel (mset M a o) c = mset (mdel M c) a o := Mem.ext' fun b => by
  by_cases e : b = c
  · subst e; rw [mdel_eq, mset_ne (Ne.symm h), mdel_eq]
  · by_cases e2 : b = a
    · subst e2; rw [mdel_ne e, mset_eq, mset_eq]
    · rw [mdel_ne e, mset_ne e2, mset_ne e2, mdel_ne e]
theorem mdel_none {M : Mem} {a : Addr} (h : M a = none) : mdel M a = M := Mem.ext' fun b => by
  by_cases e : b = a
  · subst e; rw [mdel_eq, h]
  · rw [mdel_ne e]
theorem mcut_self (M : Mem) : mcut M M = M := Mem.ext' fun b => by
  rw [mcut_eq]
  split
  · rename_i h; exact h.symm
  · rfl
theorem mcut_new {M0 M : Mem} {a : Addr} {o : MO} (h : M0 a = none) : mcut M0 (mset M a o) = mcut M0 M := Mem.ext' fun b => by
  rw [mcut_eq, mcut_eq]
  split
  · rfl
  · rename_i q
    rw [mset_ne fun e => by rw [e] at q; exact q h]
theorem mcut_old {M0 M : Mem} {a : Addr} {o o0 : MO} (h : M0 a = some o0) : mcut M0 (mset M a o) = mset (mcut M0 M) a o := Mem.ext' fun b => by
  by_cases e : b = a
  · subst e
    rw [mcut_eq, mset_eq, mset_eq, if_neg (by rw [h]; simp)]
  · rw [mset_ne e, mcut_eq, mcut_eq, mset_ne e]

def SqS (K : PySem.W.Frag) (H : Hp) (a : Addr) (ns : List Int) : Prop :=
  (∃ o, H a = some (.frz o (.lst (ns.map V.int)))) ∨ ∀ H' : Hp, SqL K H' a (ns.map V.int)

mutual
inductive Rep (K : PySem.W.Frag) (H : Hp) : D → V → Prop
  | non : Rep K H .non .non
  | bl (b : Bool) : Rep K H (.bl b) (.bl b)
  | int (i : Int) : Rep K H (.int i) (.int i)
  | str (x : Str) : Rep K H (.str x) (.str x)
  | tup {a : Addr} {vs : List V} {ds : List D} : SqT K H a vs → Reps K H ds vs → Rep K H (.tup ds) (.ref a)
  | lst {a : Addr} {vs : List V} {ds : List D} {o : Obj} : H a = some (.frz o (.lst vs)) → Reps K H ds vs → Rep K H (.lst ds) (.ref a)
  | scr {a : Addr} {ns : List Int} : SqS K H a ns → Rep K H (.scr ns) (.ref a)
  | ref (a : Addr) : Rep K H (.ref a) (.ref a)
inductive Reps (K : PySem.W.Frag) (H : Hp) : List D → List V → Prop
  | nil : Reps K H [] []
  | cons {d : D} {v : V} {ds : List D} {vs : List V} : Rep K H d v → Reps K H ds vs → Reps K H (d :: ds) (v :: vs)
end

structure Ext (H H' : Hp) : Prop where
  tup : ∀ b xs, H b = some (.tup xs) → H' b = some (.tup xs)
  frz : ∀ b o u, H b = some (.frz o u) → H' b = some (.frz o u)
theorem Ext.refl (H : Hp) : Ext H H := ⟨fun _ _ h => h, fun _ _ _ h => h⟩
theorem Ext.trans {H H1 H2 : Hp} (a : Ext H H1) (b : Ext H1 H2) : Ext H H2 := ⟨fun c x h => b.tup c x (a.tup c x h), fun c o u h => b.frz c o u (a.frz c o u h)⟩
theorem Ext.sqT {K : PySem.W.Frag} {H H' : Hp} (e : Ext H H') {a : Addr} {xs : List V} (h : SqT K H a xs) : SqT K H' a xs := by
  rcases h with (h | ⟨o, h⟩) | h
  · exact .inl (.inl (e.tup _ _ h))
  · exact .inl (.inr ⟨o, e.frz _ _ _ h⟩)
  · exact .inr h
theorem Ext.new {H : Hp} {p : Addr} {o : HO} (h : H p = none) : Ext H (upd H p o) :=
  ⟨fun b xs e => by rw [upd_ne (ne_of_none e h)]; exact e, fun b o u e => by rw [upd_ne (ne_of_none e h)]; exact e⟩
theorem Ext.lst {H : Hp} {p : Addr} {o : HO} {xs : List V} (h : H p = some (.lst xs)) : Ext H (upd H p o) :=
  ⟨fun b ys e => by rw [upd_ne (ne_of e h (by intro z; cases z))]; exact e, fun b o u e => by rw [upd_ne (ne_of e h (by intro z; cases z))]; exact e⟩

mutual
theorem Rep.ext {K : PySem.W.Frag} {H H' : Hp} (e : Ext H H') : ∀ {d : D} {v : V}, Rep K H d v → Rep K H' d v
  | _, _, .non => .non
  | _, _, .bl b => .bl b
  | _, _, .int i => .int i
  | _, _, .str x => .str x
  | _, _, .tup h r => .tup (e.sqT h) (Reps.ext e r)
  | _, _, .lst h r => .lst (e.frz _ _ _ h) (Reps.ext e r)
  | _, _, .scr h => .scr (by
      rcases h with ⟨o, h⟩ | h
      · exact .inl ⟨o, e.frz _ _ _ h⟩
      · exact .inr h)
  | _, _, .ref a => .ref a
theorem Reps.ext {K : PySem.W.Frag} {H H' : Hp} (e : Ext H H') : ∀ {ds : List D} {vs : List V}, Reps K H ds vs → Reps K H' ds vs
  | _, _, .nil => .nil
  | _, _, .cons r t => .cons (Rep.ext e r) (Reps.ext e t)
end
section
variable {K : PySem.W.Frag} {H H' : Hp}
theorem Reps.length : ∀ {ds : List D} {vs : List V}, Reps K H ds vs → ds.length = vs.length
  | _, _, .nil => rfl
  | _, _, .cons _ t => by simp [Reps.length t]
theorem Reps.get : ∀ {ds : List D} {vs : List V} {i : Nat} {d : D}, Reps K H ds vs → ds[i]? = some d → ∃ v, vs[i]? = some v ∧ Rep K H d v
  | _, _, _, _, .nil, e => by simp at e
  | _, _, 0, _, .cons r _, e => by simp at e; subst e; exact ⟨_, rfl, r⟩
  | _, _, i + 1, d, .cons _ t, e => by
    obtain ⟨v, h1, h2⟩ := Reps.get (i := i) (d := d) t (by simpa using e)
    exact ⟨v, by simpa using h1, h2⟩
theorem Reps.getV : ∀ {ds : List D} {vs : List V} {i : Nat} {v : V}, Reps K H ds vs → vs[i]? = some v → ∃ d, ds[i]? = some d ∧ Rep K H d v
  | _, _, _, _, .nil, e => by simp at e
  | _, _, 0, _, .cons r _, e => by simp at e; subst e; exact ⟨_, rfl, r⟩
  | _, _, i + 1, d, .cons _ t, e => by
    obtain ⟨v, h1, h2⟩ := Reps.getV (i := i) (v := d) t (by simpa using e)
    exact ⟨v, by simpa using h1, h2⟩
theorem Reps.append : ∀ {ds es : List D} {vs ws : List V}, Reps K H ds vs → Reps K H es ws → Reps K H (ds ++ es) (vs ++ ws)
  | _, _, _, _, .nil, s => s
  | _, _, _, _, .cons r t, s => .cons r (Reps.append t s)
theorem Reps.take : ∀ {ds : List D} {vs : List V} (n : Nat), Reps K H ds vs → Reps K H (ds.take n) (vs.take n)
  | _, _, 0, _ => .nil
  | _, _, _ + 1, .nil => .nil
  | _, _, n + 1, .cons r t => .cons r (Reps.take n t)
theorem Reps.drop : ∀ {ds : List D} {vs : List V} (n : Nat), Reps K H ds vs → Reps K H (ds.drop n) (vs.drop n)
  | _, _, 0, r => r
  | _, _, _ + 1, .nil => .nil
  | _, _, n + 1, .cons _ t => Reps.drop n t
theorem Reps.set {d : D} {v : V} (r : Rep K H d v) : ∀ {ds : List D} {vs : List V} (i : Nat), Reps K H ds vs → Reps K H (ds.set i d) (vs.set i v)
  | _, _, _, .nil => .nil
  | _, _, 0, .cons _ t => .cons r t
  | _, _, i + 1, .cons q t => .cons q (Reps.set r i t)
theorem Reps.rep {ds : List D} {vs : List V} (r : Reps K H ds vs) : ∀ n : Nat, Reps K H (List.replicate n ds).flatten (List.replicate n vs).flatten
  | 0 => .nil
  | n + 1 => by
    rw [List.replicate_succ, List.replicate_succ, List.flatten_cons, List.flatten_cons]
    exact r.append (Reps.rep r n)
theorem Reps.one {d : D} {v : V} (r : Rep K H d v) : Reps K H [d] [v] := .cons r .nil
theorem Reps.inv1 {ds : List D} {v : V} (r : Reps K H ds [v]) : ∃ d, ds = [d] ∧ Rep K H d v := by
  cases r with
  | cons r t => cases t; exact ⟨_, rfl, r⟩
theorem Reps.ints {ns : List Int} : Reps K H (ns.map D.int) (ns.map V.int) := by
  induction ns with
  | nil => exact .nil
  | cons n r ih => exact .cons (.int n) ih
/-- values that stand for ints are the ints -/
theorem Reps.ofInts : ∀ {ns : List Int} {vs : List V}, Reps K H (ns.map D.int) vs → vs = ns.map V.int
  | [], _, h => by cases h; rfl
  | n :: r, _, h => by
    cases h with
    | cons h t => cases h; rw [Reps.ofInts t]; rfl
theorem Reps.ofBls : ∀ {ns : List Bool} {vs : List V}, Reps K H (ns.map D.bl) vs → vs = ns.map V.bl
  | [], _, h => by cases h; rfl
  | n :: r, _, h => by
    cases h with
    | cons h t => cases h; rw [Reps.ofBls t]; rfl
theorem Reps.ofStrs : ∀ {ns : List Str} {vs : List V}, Reps K H (ns.map D.str) vs → vs = ns.map V.str
  | [], _, h => by cases h; rfl
  | n :: r, _, h => by
    cases h with
    | cons h t => cases h; rw [Reps.ofStrs t]; rfl
end

/-! ### the store and the slots -/
def AbsO (K : PySem.W.Frag) (H : Hp) (a : Addr) : MO → Prop
  | .lst ds => ∃ vs, H a = some (.lst vs) ∧ Reps K H ds vs
def Abs (K : PySem.W.Frag) (H : Hp) (M : Mem) : Prop := ∀ a o, M a = some o → AbsO K H a o
abbrev Rho := List (Option D)
structure RepS (K : PySem.W.Frag) (H : Hp) (ρ : Rho) (σ : L2.St) : Prop where
  len : ρ.length = σ.length
  get : ∀ (i : Nat) (d : D), ρ[i]? = some (some d) → ∃ v, σ[i]? = some (some v) ∧ Rep K H d v
section
variable {K : PySem.W.Frag} {H H' : Hp} {M : Mem} {ρ : Rho} {σ : L2.St} {a p : Addr} {ds : List D} {vs : List V}
theorem Abs.free (A : Abs K H M) (h : H p = none) : M p = none := by
  cases e : M p with
  | none => rfl
  | some o =>
    have := A p o e
    cases o with
    | lst ds => obtain ⟨vs, q, _⟩ := this; rw [h] at q; cases q
theorem Abs.at (A : Abs K H M) (h : M a = some (.lst ds)) : ∃ vs, H a = some (.lst vs) ∧ Reps K H ds vs := A a _ h
theorem AbsO.ext {o : MO} (e : Ext H H') (h : AbsO K H a o) (k : ∀ vs, H a = some (.lst vs) → H' a = some (.lst vs)) : AbsO K H' a o := by
  cases o with
  | lst ds => obtain ⟨vs, q, r⟩ := h; exact ⟨vs, k _ q, r.ext e⟩
/-- the same store, a heap in which more stands -/
theorem Abs.more (A : Abs K H M) (h : H p = none) {o : HO} : Abs K (upd H p o) M := fun b q e =>
  (A b q e).ext (Ext.new h) fun vs z => by rw [upd_ne (ne_of_none z h)]; exact z
theorem Abs.new (A : Abs K H M) (h : H p = none) (r : Reps K H ds vs) : Abs K (upd H p (.lst vs)) (mset M p (.lst ds)) := fun b q e => by
  by_cases hb : b = p
  · subst hb
    rw [mset_eq] at e; cases e
    exact ⟨vs, upd_same, r.ext (Ext.new h)⟩
  · rw [mset_ne hb] at e
    exact A.more h b q e
theorem Abs.set (A : Abs K H M) {ws : List V} (h : H p = some (.lst ws)) (r : Reps K H ds vs) : Abs K (upd H p (.lst vs)) (mset M p (.lst ds)) := fun b q e => by
  by_cases hb : b = p
  · subst hb
    rw [mset_eq] at e; cases e
    exact ⟨vs, upd_same, r.ext (Ext.lst h)⟩
  · rw [mset_ne hb] at e
    exact (A b q e).ext (Ext.lst h) fun vs z => by rw [upd_ne hb]; exact z
theorem Abs.del (A : Abs K H M) : Abs K H (mdel M p) := fun b q e => by
  by_cases hb : b = p
  · subst hb; rw [mdel_eq] at e; cases e
  · rw [mdel_ne hb] at e; exact A b q e
theorem Abs.cut {M0 : Mem} (A : Abs K H M) : Abs K H (mcut M0 M) := fun b q e => by
  rw [mcut_eq] at e
  split at e
  · cases e
  · exact A b q e
/-- a list is finished -/
theorem Abs.fz (A : Abs K H M) {o : HO} (h : H p = some (.lst vs)) : Abs K (upd H p o) (mdel M p) := fun b q e => by
  by_cases hb : b = p
  · subst hb; rw [mdel_eq] at e; cases e
  · rw [mdel_ne hb] at e
    exact (A b q e).ext (Ext.lst h) fun vs z => by rw [upd_ne hb]; exact z
theorem RepS.ext (S : RepS K H ρ σ) (e : Ext H H') : RepS K H' ρ σ := ⟨S.len, fun i d h => let ⟨v, a, b⟩ := S.get i d h; ⟨v, a, b.ext e⟩⟩
theorem RepS.set (S : RepS K H ρ σ) {d : D} {v : V} (r : Rep K H d v) (i : Nat) : RepS K H (ρ.set i (some d)) (σ.set i (some v)) := by
  refine ⟨by simp [S.len], fun j e h => ?_⟩
  by_cases hj : j = i
  · subst hj
    rw [List.getElem?_set] at h
    simp only [if_true] at h
    split at h
    · rename_i hl
      cases h
      exact ⟨v, by rw [List.getElem?_set_self (by rw [← S.len]; exact hl)], r⟩
    · cases h
  · rw [List.getElem?_set_ne (Ne.symm hj)] at h
    obtain ⟨w, h1, h2⟩ := S.get j e h
    exact ⟨w, by rw [List.getElem?_set_ne (Ne.symm hj)]; exact h1, h2⟩
def wipeD (ρ : Rho) : List Nat → Rho
  | [] => ρ
  | i :: r => (wipeD ρ r).set i none
theorem wipeD_len (ρ : Rho) : ∀ vs : List Nat, (wipeD ρ vs).length = ρ.length
  | [] => rfl
  | i :: r => by unfold wipeD; rw [List.length_set, wipeD_len ρ r]
theorem wipeD_get {ρ : Rho} {i : Nat} {d : D} : ∀ {vs : List Nat}, (wipeD ρ vs)[i]? = some (some d) → ρ[i]? = some (some d) ∧ i ∉ vs
  | [], h => ⟨h, by simp⟩
  | j :: r, h => by
    unfold wipeD at h
    by_cases hj : i = j
    · subst hj
      rw [List.getElem?_set] at h
      simp only [if_true] at h
      split at h <;> cases h
    · rw [List.getElem?_set_ne (Ne.symm hj)] at h
      obtain ⟨a, b⟩ := wipeD_get h
      exact ⟨a, by simp [hj, b]⟩
theorem RepS.wipe (S : RepS K H ρ σ) (vs : List Nat) : RepS K H (wipeD ρ vs) (L2.wipe σ vs) := by
  refine ⟨by rw [wipeD_len, L2.wipe_length]; exact S.len, fun i d h => ?_⟩
  obtain ⟨h1, h2⟩ := wipeD_get h
  obtain ⟨v, a, b⟩ := S.get i d h1
  exact ⟨v, by rw [L2.wipe_out h2]; exact a, b⟩
end

/-! ### readings over plain data, and what they are over the hand layer -/
abbrev DE := Rho → Mem → (D → Mem → Prop) → Prop
abbrev DT := Rho → Mem → (Bool → Mem → Prop) → Prop
abbrev DA := Rho → Mem → (List D → Mem → Prop) → Prop
structure DEnds where
  nx : Rho → Mem → Prop
  rt : D → Mem → Prop
  bk : Rho → Mem → Prop := fun _ _ => False
  ct : Rho → Mem → Prop := fun _ _ => False
abbrev DS := DEnds → Rho → Mem → Prop
abbrev DG := D → Rho → Mem → (Rho → Mem → Prop) → Prop
abbrev DGs := List D → Rho → Mem → (Rho → Mem → Prop) → Prop
/-- what is walked: the items, and what must stand at each turn -/
structure Src where
  items : List D
  chk : Mem → Prop
abbrev DI := Rho → Mem → (Src → Mem → Prop) → Prop
/-- by values -/
abbrev DR := List D → Mem → (D → Mem → Prop) → Prop
abbrev DRT := D → Mem → (Bool → Mem → Prop) → Prop

/-- the wish Q is met by what P lets -/
def Met (K : PySem.W.Frag) (H : Hp) (P : D → Mem → Prop) (Q : VK) : Prop := ∀ d M' v H', P d M' → Ext H H' → Abs K H' M' → Rep K H' d v → Q v H'
theorem Met.ext {K : PySem.W.Frag} {H H1 : Hp} {P : D → Mem → Prop} {Q : VK} (m : Met K H P Q) (e : Ext H H1) : Met K H1 P Q := fun d M' v H' p e' a r => m d M' v H' p (e.trans e') a r
def LE (K : PySem.W.Frag) (t : DE) : TE := fun σ H Q => ∃ ρ M P, RepS K H ρ σ ∧ Abs K H M ∧ t ρ M P ∧ Met K H P Q
def LT (K : PySem.W.Frag) (t : DT) : TT := fun σ H Q => ∃ ρ M P, RepS K H ρ σ ∧ Abs K H M ∧ t ρ M P ∧ ∀ b M' H', P b M' → Ext H H' → Abs K H' M' → Q b H'
def LA (K : PySem.W.Frag) (t : DA) : TA := fun σ H Q => ∃ ρ M P, RepS K H ρ σ ∧ Abs K H M ∧ t ρ M P ∧ ∀ ds M' vs H', P ds M' → Ext H H' → Abs K H' M' → Reps K H' ds vs → Q vs H'
structure EndsRel (K : PySem.W.Frag) (H : Hp) (E : DEnds) (Z : Ends) : Prop where
  nx : ∀ ρ M σ H', E.nx ρ M → Ext H H' → RepS K H' ρ σ → Abs K H' M → Z.nx σ H'
  bk : ∀ ρ M σ H', E.bk ρ M → Ext H H' → RepS K H' ρ σ → Abs K H' M → Z.bk σ H'
  ct : ∀ ρ M σ H', E.ct ρ M → Ext H H' → RepS K H' ρ σ → Abs K H' M → Z.ct σ H'
  rt : ∀ d M v H', E.rt d M → Ext H H' → Abs K H' M → Rep K H' d v → Z.rt v H'
theorem EndsRel.ext {K : PySem.W.Frag} {H H1 : Hp} {E : DEnds} {Z : Ends} (r : EndsRel K H E Z) (e : Ext H H1) : EndsRel K H1 E Z :=
  ⟨fun ρ M σ H' p e' => r.nx ρ M σ H' p (e.trans e'), fun ρ M σ H' p e' => r.bk ρ M σ H' p (e.trans e'), fun ρ M σ H' p e' => r.ct ρ M σ H' p (e.trans e'), fun d M v H' p e' => r.rt d M v H' p (e.trans e')⟩
def LS (K : PySem.W.Frag) (t : DS) : TS := fun Z σ H => ∃ ρ M E, RepS K H ρ σ ∧ Abs K H M ∧ t E ρ M ∧ EndsRel K H E Z
/-- a target: the slots that it does not name stay -/
def LG (K : PySem.W.Frag) (sl : List Nat) (g : DG) : TG := fun v σ H Q => ∃ d ρ M P, Rep K H d v ∧ RepS K H ρ σ ∧ Abs K H M ∧ g d ρ M P ∧
  ∀ ρ' M' σ' H', P ρ' M' → Ext H H' → RepS K H' ρ' σ' → Abs K H' M' → ((∀ i, i ∉ sl → σ'[i]? = σ[i]?) ∧ σ'.length = σ.length) → Q σ' H'
def LGs (K : PySem.W.Frag) (sl : List Nat) (g : DGs) : TGs := fun vs σ H Q => ∃ ds ρ M P, Reps K H ds vs ∧ RepS K H ρ σ ∧ Abs K H M ∧ g ds ρ M P ∧
  ∀ ρ' M' σ' H', P ρ' M' → Ext H H' → RepS K H' ρ' σ' → Abs K H' M' → ((∀ i, i ∉ sl → σ'[i]? = σ[i]?) ∧ σ'.length = σ.length) → Q σ' H'
/-- how an iterator of the hand layer goes through the items -/
structure WalkD (K : PySem.W.Frag) (H0 : Hp) (J : It) (S : Src) : Prop where
  goes : ∀ i H M, i < S.items.length → Ext H0 H → Abs K H M → S.chk M → J.go i H
  stops : ∀ H M, Ext H0 H → Abs K H M → S.chk M → J.stop S.items.length H
  yields : ∀ i H M x H', i < S.items.length → Ext H0 H → Abs K H M → S.chk M → J.yld i H x H' → ∃ d, S.items[i]? = some d ∧ Ext H H' ∧ Abs K H' M ∧ Rep K H' d x
def LI (K : PySem.W.Frag) (t : DI) : TI := fun σ H R => ∃ ρ M P, RepS K H ρ σ ∧ Abs K H M ∧ t ρ M P ∧ ∀ S M' J H', P S M' → Ext H H' → Abs K H' M' → WalkD K H' J S → R J H'

abbrev EX (X : Cx) (e : Expr) (t : DE) : Prop := PE X e (LE X.K t)
abbrev TX (X : Cx) (e : Expr) (t : DT) : Prop := PT X e (LT X.K t)
abbrev WX (X : Cx) (e : Expr) (t : DT) : Prop := PW X e (LT X.K t)
abbrev AX (X : Cx) (es : List Expr) (t : DA) : Prop := PA X es (LA X.K t)
abbrev SX (X : Cx) (st : Stmt) (t : DS) : Prop := PS X st (LS X.K t)
abbrev SsX (X : Cx) (st : List Stmt) (t : DS) : Prop := PSs X st (LS X.K t)
abbrev GX (X : Cx) (sl : List Nat) (tg : Expr) (g : DG) : Prop := PG X tg (LG X.K sl g)
abbrev GsX (X : Cx) (sl : List Nat) (tg : List Expr) (g : DGs) : Prop := PGs X tg (LGs X.K sl g)
abbrev IX (X : Cx) (tg it : Expr) (t : DI) : Prop := PI X tg it (LI X.K t)

section
variable {X : Cx}
theorem PE.of {e : Expr} {t t' : TE} (h : PE X e t) (w : ∀ σ H Q, t' σ H Q → t σ H Q) : PE X e t' := ⟨fun pins s σ H Q I q => h.run pins s σ H Q I (w σ H Q q)⟩
theorem PT.of {e : Expr} {t t' : TT} (h : PT X e t) (w : ∀ σ H Q, t' σ H Q → t σ H Q) : PT X e t' := ⟨fun pins s σ H Q I q => h.run pins s σ H Q I (w σ H Q q)⟩
theorem PW.of {e : Expr} {t t' : TT} (h : PW X e t) (w : ∀ σ H Q, t' σ H Q → t σ H Q) : PW X e t' := ⟨fun wh pins s σ H Q I q => h.run wh pins s σ H Q I (w σ H Q q)⟩
theorem PA.of {e : List Expr} {t t' : TA} (h : PA X e t) (w : ∀ σ H Q, t' σ H Q → t σ H Q) : PA X e t' := ⟨fun po pins s σ H Q I q => h.run po pins s σ H Q I (w σ H Q q)⟩
theorem PS.of {e : Stmt} {t t' : TS} (h : PS X e t) (w : ∀ σ H Q, t' Q σ H → t Q σ H) : PS X e t' := ⟨fun pins s σ H Q I q => h.run pins s σ H Q I (w σ H Q q)⟩
theorem PSs.of {e : List Stmt} {t t' : TS} (h : PSs X e t) (w : ∀ σ H Q, t' Q σ H → t Q σ H) : PSs X e t' := ⟨fun pins s σ H Q I q => h.run pins s σ H Q I (w σ H Q q)⟩
theorem PG.of {e : Expr} {t t' : TG} (h : PG X e t) (w : ∀ v σ H Q, t' v σ H Q → t v σ H Q) : PG X e t' := ⟨fun pins s σ H v u Q I r q => h.run pins s σ H v u Q I r (w v σ H Q q)⟩
theorem PGs.of {e : List Expr} {t t' : TGs} (h : PGs X e t) (w : ∀ v σ H Q, t' v σ H Q → t v σ H Q) : PGs X e t' := ⟨fun pins s σ H v u Q I r q => h.run pins s σ H v u Q I r (w v σ H Q q)⟩
theorem PI.of {tg e : Expr} {t t' : TI} (h : PI X tg e t) (w : ∀ σ H Q, t' σ H Q → t σ H Q) : PI X tg e t' := ⟨fun pins s σ H Q I q => h.run pins s σ H Q I (w σ H Q q)⟩
end

/-! ### names, constants -/
def dVar (i : Nat) : DE := fun ρ M P => match ρ[i]? with
  | some (some d) => P d M
  | _ => False
def dC (d : D) : DE := fun _ M P => P d M
section
variable {X : Cx}
theorem ex_var (i : Nat) {x : Str} {pos : Pos} (h : PE X (.Name x pos) (tVar i)) : EX X (.Name x pos) (dVar i) := PE.of h fun σ H Q ⟨ρ, M, P, S, A, t, m⟩ => by
  unfold dVar at t
  split at t
  · rename_i d e
    obtain ⟨v, h1, r⟩ := S.get i d e
    exact ⟨v, h1, m d M v H t (Ext.refl H) A r⟩
  · exact t.elim
theorem ex_c {e : Expr} {v : V} {d : D} (h : PE X e (tC v)) (r : ∀ H, Rep X.K H d v := by first | exact fun _ => .int _ | exact fun _ => .bl _ | exact fun _ => .non | exact fun _ => .str _) : EX X e (dC d) :=
  PE.of h fun σ H Q ⟨ρ, M, P, S, A, t, m⟩ => m d M v H t (Ext.refl H) A (r H)
end

/-! ### operators by values -/
/-- a binary thing by values over data -/
def L2R (K : PySem.W.Frag) (r : D → D → Mem → (D → Mem → Prop) → Prop) : R2 := fun x y H Q => ∃ dx dy M P, Rep K H dx x ∧ Rep K H dy y ∧ Abs K H M ∧ r dx dy M P ∧ Met K H P Q
abbrev DR2 := D → D → Mem → (D → Mem → Prop) → Prop
def dOp (r : DR2) (ta tb : DE) : DE := fun ρ M P => ta ρ M fun x M1 => tb ρ M1 fun y M2 => r x y M2 P
theorem dOp_in {K : PySem.W.Frag} {r : DR2} {ta tb : DE} : ∀ σ H Q, LE K (dOp r ta tb) σ H Q → tOp (L2R K r) (LE K ta) (LE K tb) σ H Q := fun σ H Q ⟨ρ, M, P, S, A, t, m⟩ =>
  ⟨ρ, M, _, S, A, t, fun x M1 vx H1 t1 e1 a1 r1 => ⟨ρ, M1, _, S.ext e1, a1, t1, fun y M2 vy H2 t2 e2 a2 r2 => ⟨x, y, M2, P, r1.ext e2, r2, a2, t2, m.ext (e1.trans e2)⟩⟩⟩
section
variable {X : Cx} {a b c : Expr} {ta tb tc : DE} {pos : Pos}
theorem OpR.of {f : Value → Value → Sem Value} {r r' : R2} (h : OpR X f r) (w : ∀ x y H Q, r' x y H Q → r x y H Q) : OpR X f r' := fun pins s σ H x y v u Q I rx ry q => h pins s σ H x y v u Q I rx ry (w x y H Q q)
abbrev OX (X : Cx) (f : Value → Value → Sem Value) (r : DR2) : Prop := OpR X f (L2R X.K r)
theorem ex_op {op : Operator} {r : DR2} (ho : OX X (binaryOp op) r) (ha : EX X a ta) (hb : EX X b tb) : EX X (.BinOp a op b pos) (dOp r ta tb) := PE.of (pe_op ho ha hb) dOp_in
theorem ex_cmp {op : CmpOp} {r : DR2} (ho : OX X (compareOp op) r) (ha : EX X a ta) (hb : EX X b tb) (hm : behindInMarks op b = false) : EX X (.Compare a [op] [b] pos) (dOp r ta tb) := PE.of (pe_cmpR ho ha hb hm) dOp_in
/-- a value that is a bool, as a test -/
def dTest (t : DE) : DT := fun ρ M P => t ρ M fun x M1 => match x with
  | .bl k => P k M1
  | _ => False
theorem LE_test {K : PySem.W.Frag} {t : DE} {σ : L2.St} {H : Hp} {Q : Bool → Hp → Prop} (h : LT K (dTest t) σ H Q) : LE K t σ H fun x H1 => ∃ k, x = .bl k ∧ Q k H1 := by
  obtain ⟨ρ, M, P, S, A, t, m⟩ := h
  refine ⟨ρ, M, _, S, A, t, fun d M' v H' p e a r => ?_⟩
  cases d with
  | bl k => cases r; exact ⟨k, rfl, m k M' H' p e a⟩
  | _ => exact p.elim
theorem tx_cmp {op : CmpOp} {r : DR2} (ho : OX X (compareOp op) r) (ha : EX X a ta) (hb : EX X b tb) (hm : behindInMarks op b = false) : TX X (.Compare a [op] [b] pos) (dTest (dOp r ta tb)) :=
  PT.of (pt_cmpR ho ha hb hm) fun σ H Q h => dOp_in σ H _ (LE_test h)
theorem tx_val {e : Expr} {t : DE} (h : EX X e t) (he : ∀ whole, isTrue e X.env whole = (do let v ← whole; standAt e.pos; holding [v] (truthy v)) := by intro _; rfl) : TX X e (dTest t) :=
  PT.of (pt_val h he) fun σ H Q h => LE_test h
/-- a < b < c -/
def dChain (r r' : DR2) (ta tb tc : DE) : DE := fun ρ M P => ta ρ M fun x M1 => tb ρ M1 fun y M2 => r x y M2 fun z M3 => match z with
  | .bl k => if k = true then tc ρ M3 fun w M4 => r' y w M4 P else P (.bl false) M3
  | _ => False
theorem dChain_in {K : PySem.W.Frag} {r r' : DR2} : ∀ σ H Q, LE K (dChain r r' ta tb tc) σ H Q → tChain (L2R K r) (L2R K r') (LE K ta) (LE K tb) (LE K tc) σ H Q := fun σ H Q ⟨ρ, M, P, S, A, t, m⟩ => by
  refine ⟨ρ, M, _, S, A, t, fun x M1 vx H1 t1 e1 a1 r1 => ⟨ρ, M1, _, S.ext e1, a1, t1, fun y M2 vy H2 t2 e2 a2 r2 => ⟨x, y, M2, _, r1.ext e2, r2, a2, t2, fun z M3 vz H3 t3 e3 a3 r3 => ?_⟩⟩⟩
  cases z with
  | bl k =>
    cases r3
    refine ⟨k, rfl, ?_⟩
    cases k with
    | false => exact m _ M3 _ H3 t3 ((e1.trans e2).trans e3) a3 (.bl false)
    | true => exact ⟨ρ, M3, _, S.ext ((e1.trans e2).trans e3), a3, t3, fun w M4 vw H4 t4 e4 a4 r4 => ⟨y, w, M4, P, (r2.ext e3).ext e4, r4, a4, t4, m.ext (((e1.trans e2).trans e3).trans e4)⟩⟩
  | _ => exact t3.elim
theorem ex_chain {op op' : CmpOp} {r r' : DR2} (ho : OX X (compareOp op) r) (ho' : OX X (compareOp op') r') (ha : EX X a ta) (hb : EX X b tb) (hc : EX X c tc)
    (h : ∀ {t : TE} {t' : TE} {t'' : TE} {r r' : R2}, OpR X (compareOp op) r → OpR X (compareOp op') r' → PE X a t → PE X b t' → PE X c t'' → PE X (.Compare a [op, op'] [b, c] pos) (tChain r r' t t' t'')) : EX X (.Compare a [op, op'] [b, c] pos) (dChain r r' ta tb tc) :=
  PE.of (h ho ho' ha hb hc) dChain_in
end

/-! ### and, or, not, if -/
def dAnd (t u : DT) : DT := fun ρ M P => t ρ M fun c M1 => if c = true then u ρ M1 P else P false M1
def dOr (t u : DT) : DT := fun ρ M P => t ρ M fun c M1 => if c = true then P true M1 else u ρ M1 P
def dNot (t : DT) : DT := fun ρ M P => t ρ M fun c M1 => P (!c) M1
def dAndV (ta tb : DE) : DE := fun ρ M P => ta ρ M fun x M1 => match x with
  | .bl c => if c = true then tb ρ M1 P else P (.bl false) M1
  | _ => False
def dOrV (ta tb : DE) : DE := fun ρ M P => ta ρ M fun x M1 => match x with
  | .bl c => if c = true then P (.bl true) M1 else tb ρ M1 P
  | _ => False
def dNotV (ta : DE) : DE := fun ρ M P => ta ρ M fun x M1 => match x with
  | .bl c => P (.bl (!c)) M1
  | _ => False
def dIf (t : DT) (ta tb : DE) : DE := fun ρ M P => t ρ M fun c M1 => if c = true then ta ρ M1 P else tb ρ M1 P
section
variable {X : Cx} {a b c : Expr} {rest : List Expr} {ta tb : DE} {t u : DT} {pos : Pos}
theorem wx_and1 (ha : TX X a t) : WX X (.BoolOp .And [a] pos) t := pw_and1 ha
theorem wx_or1 (ha : TX X a t) : WX X (.BoolOp .Or [a] pos) t := pw_or1 ha
theorem wx_and (ha : TX X a t) (hb : WX X (.BoolOp .And (b :: rest) pos) u) : WX X (.BoolOp .And (a :: b :: rest) pos) (dAnd t u) :=
  PW.of (pw_and ha hb) fun σ H Q ⟨ρ, M, P, S, A, t, m⟩ => ⟨ρ, M, _, S, A, t, fun k M1 H1 t1 e1 a1 => by
    cases k with
    | true => exact iteT ⟨ρ, M1, P, S.ext e1, a1, t1, fun k2 M2 H2 p e2 a2 => m k2 M2 H2 p (e1.trans e2) a2⟩
    | false => exact iteF (m _ M1 H1 t1 e1 a1)⟩
theorem wx_or (ha : TX X a t) (hb : WX X (.BoolOp .Or (b :: rest) pos) u) : WX X (.BoolOp .Or (a :: b :: rest) pos) (dOr t u) :=
  PW.of (pw_or ha hb) fun σ H Q ⟨ρ, M, P, S, A, t, m⟩ => ⟨ρ, M, _, S, A, t, fun k M1 H1 t1 e1 a1 => by
    cases k with
    | false => exact iteF ⟨ρ, M1, P, S.ext e1, a1, t1, fun k2 M2 H2 p e2 a2 => m k2 M2 H2 p (e1.trans e2) a2⟩
    | true => exact iteT (m _ M1 H1 t1 e1 a1)⟩
theorem tx_not (ha : TX X a t) : TX X (.UnaryOp .Not a pos) (dNot t) :=
  PT.of (pt_not ha) fun σ H Q ⟨ρ, M, P, S, A, t, m⟩ => ⟨ρ, M, _, S, A, t, fun k M1 H1 t1 e1 a1 => m _ M1 H1 t1 e1 a1⟩
theorem ex_one {op} (ha : EX X a ta) : EX X (.BoolOp op [a] pos) ta := pe_one ha
theorem ex_and (ha : EX X a ta) (hb : EX X (.BoolOp .And (b :: rest) pos) tb) : EX X (.BoolOp .And (a :: b :: rest) pos) (dAndV ta tb) :=
  PE.of (pe_and ha hb) fun σ H Q ⟨ρ, M, P, S, A, t, m⟩ => ⟨ρ, M, _, S, A, t, fun x M1 v1 H1 t1 e1 a1 r1 => by
    cases x with
    | bl k =>
      cases r1
      refine ⟨k, rfl, ?_⟩
      cases k with
      | true => exact iteT ⟨ρ, M1, P, S.ext e1, a1, t1, m.ext e1⟩
      | false => exact iteF (m _ M1 _ H1 t1 e1 a1 (.bl false))
    | _ => exact t1.elim⟩
theorem ex_or (ha : EX X a ta) (hb : EX X (.BoolOp .Or (b :: rest) pos) tb) : EX X (.BoolOp .Or (a :: b :: rest) pos) (dOrV ta tb) :=
  PE.of (pe_or ha hb) fun σ H Q ⟨ρ, M, P, S, A, t, m⟩ => ⟨ρ, M, _, S, A, t, fun x M1 v1 H1 t1 e1 a1 r1 => by
    cases x with
    | bl k =>
      cases r1
      refine ⟨k, rfl, ?_⟩
      cases k with
      | false => exact iteF ⟨ρ, M1, P, S.ext e1, a1, t1, m.ext e1⟩
      | true => exact iteT (m _ M1 _ H1 t1 e1 a1 (.bl true))
    | _ => exact t1.elim⟩
theorem ex_not (ha : EX X a ta) : EX X (.UnaryOp .Not a pos) (dNotV ta) :=
  PE.of (pe_not ha) fun σ H Q ⟨ρ, M, P, S, A, t, m⟩ => ⟨ρ, M, _, S, A, t, fun x M1 v1 H1 t1 e1 a1 r1 => by
    cases x with
    | bl k => cases r1; exact ⟨k, rfl, m _ M1 _ H1 t1 e1 a1 (.bl _)⟩
    | _ => exact t1.elim⟩
theorem ex_if (hc : TX X c t) (ha : EX X a ta) (hb : EX X b tb) : EX X (.IfExp c a b pos) (dIf t ta tb) :=
  PE.of (pe_ifExp hc ha hb) fun σ H Q ⟨ρ, M, P, S, A, t, m⟩ => ⟨ρ, M, _, S, A, t, fun k M1 H1 t1 e1 a1 => by
    cases k with
    | true => exact iteT ⟨ρ, M1, P, S.ext e1, a1, t1, m.ext e1⟩
    | false => exact iteF ⟨ρ, M1, P, S.ext e1, a1, t1, m.ext e1⟩⟩
end

/-! ### argument lists, displays, calls by values -/
def dNil : DA := fun _ M P => P [] M
def dCons (ta : DE) (tr : DA) : DA := fun ρ M P => ta ρ M fun x M1 => tr ρ M1 fun xs M2 => P (x :: xs) M2
def dTup (t : DA) : DE := fun ρ M P => t ρ M fun xs M1 => xs.length ≤ sizeLine ∧ P (.tup xs) M1
def dLst (t : DA) : DE := fun ρ M P => t ρ M fun xs M1 => xs.length ≤ sizeLine ∧ ∀ p, M1 p = none → P (.ref p) (mset M1 p (.lst xs))
/-- a thing of values that is called -/
def LC (K : PySem.W.Frag) (r : DR) : List V → Hp → VK → Prop := fun vs H Q => ∃ ds M P, Reps K H ds vs ∧ Abs K H M ∧ r ds M P ∧ Met K H P Q
def dCB (r : DR) (t : DA) : DE := fun ρ M P => t ρ M fun xs M1 => r xs M1 P
/-- a finished list in the place of one under work -/
def fzK (P : D → Mem → Prop) : D → Mem → Prop := fun d M1 => match d with
  | .ref a => (match M1 a with
    | some (.lst ds) => P (.lst ds) (mdel M1 a)
    | none => False)
  | d => P d M1
def dFz (t : DE) : DE := fun ρ M P => t ρ M (fzK P)
theorem fzK_run {X : Cx} {pins : List (Addr × Obj)} {σ : L2.St} {H : Hp} {s : Shared} {v : V} {d : D} {M : Mem} {P : D → Mem → Prop} (I : L2.Inv X pins σ H s) (A : Abs X.K H M) (r : Rep X.K H d v) (q : fzK P d M) :
    ∃ d' M' H', L2.Inv X pins σ H' s ∧ Ext H H' ∧ Abs X.K H' M' ∧ Rep X.K H' d' v ∧ P d' M' := by
  cases d with
  | ref a =>
    cases r
    unfold fzK at q
    cases hM : M a with
    | none => simp only [hM] at q
    | some o =>
      cases o with
      | lst ds =>
        simp only [hM] at q
        obtain ⟨vs, hH, rs⟩ := A.at hM
        obtain ⟨od, I2⟩ := I.lock hH trivial
        exact ⟨_, _, _, I2, Ext.lst hH, A.fz hH, .lst upd_same (rs.ext (Ext.lst hH)), q⟩
  | _ => exact ⟨_, M, H, I, Ext.refl H, A, r, q⟩
section
variable {X : Cx} {e : Expr} {es : List Expr} {ta : DE} {t : DA} {pos : Pos} {x : Str} {p : Pos}
theorem ax_nil : AX X [] dNil := PA.of pa_nil fun σ H Q ⟨ρ, M, P, S, A, t, m⟩ => m [] M [] H t (Ext.refl H) A .nil
theorem ax_cons (ha : EX X e ta) (hr : AX X es t) (hs : starEach (e :: es) X.env = (false, eval e X.env) :: starEach es X.env := by rfl) : AX X (e :: es) (dCons ta t) :=
  PA.of (pa_cons ha hr hs) fun σ H Q ⟨ρ, M, P, S, A, t, m⟩ => ⟨ρ, M, _, S, A, t, fun d M1 v H1 t1 e1 a1 r1 => ⟨ρ, M1, _, S.ext e1, a1, t1, fun ds M2 vs H2 t2 e2 a2 r2 => m _ M2 _ H2 t2 (e1.trans e2) a2 (.cons (r1.ext e2) r2)⟩⟩
theorem ex_tup {x1} (h : AX X es t) : EX X (.Tuple es x1 pos) (dTup t) :=
  PE.of (pe_tup h) fun σ H Q ⟨ρ, M, P, S, A, t, m⟩ => ⟨ρ, M, _, S, A, t, fun ds M1 vs H1 t1 e1 a1 r1 =>
    ⟨by rw [← r1.length]; exact t1.1, fun q hq => m _ M1 _ _ t1.2 (e1.trans (Ext.new hq)) (a1.more hq) (.tup (.inl (.inl upd_same)) (r1.ext (Ext.new hq)))⟩⟩
theorem ex_lst (h : AX X es t) : EX X (.List es pos) (dLst t) :=
  PE.of (pe_lst h) fun σ H Q ⟨ρ, M, P, S, A, t, m⟩ => ⟨ρ, M, _, S, A, t, fun ds M1 vs H1 t1 e1 a1 r1 =>
    ⟨by rw [← r1.length]; exact t1.1, fun q hq => m _ _ _ _ (t1.2 q (a1.free hq)) (e1.trans (Ext.new hq)) (a1.new hq r1) (.ref q)⟩⟩
abbrev CX' (X : Cx) (f : Value) (r : DR) : Prop := CallR X f (LC X.K r)
theorem CallR.of {f : Value} {r r' : List V → Hp → VK → Prop} (h : CallR X f r) (w : ∀ vs H Q, r' vs H Q → r vs H Q) : CallR X f r' := fun pins s σ H vs us Q I rx q => h pins s σ H vs us Q I rx (w vs H Q q)
theorem dCB_in {K : PySem.W.Frag} {r : DR} : ∀ σ H Q, LE K (dCB r t) σ H Q → tCB (LC K r) (LA K t) σ H Q := fun σ H Q ⟨ρ, M, P, S, A, t, m⟩ =>
  ⟨ρ, M, _, S, A, t, fun ds M1 vs H1 t1 e1 a1 r1 => ⟨ds, M1, P, r1, a1, t1, m.ext e1⟩⟩
theorem ex_callB {id : String} {r : DR} (hc : CX' X (.builtin id) r) (hg : Gl X x) (hm : X.mg x = none) (hv : bootBuiltins x = some (.builtin id)) (ha : AX X (e :: es) t)
    (h : ∀ {r : List V → Hp → VK → Prop} {t : TA}, CallR X (.builtin id) r → Gl X x → X.mg x = none → bootBuiltins x = some (.builtin id) → PA X (e :: es) t → PE X (.Call (.Name x p) (e :: es) [] pos) (tCB r t)) : EX X (.Call (.Name x p) (e :: es) [] pos) (dCB r t) :=
  PE.of (h hc hg hm hv ha) dCB_in
theorem ex_callT {id : String} {r : DR} (hc : CX' X (.type id) r) (hg : Gl X x) (hm : X.mg x = none) (hv : bootBuiltins x = some (.type id)) (ha : AX X (e :: es) t)
    (h : ∀ {r : List V → Hp → VK → Prop} {t : TA}, CallR X (.type id) r → Gl X x → X.mg x = none → bootBuiltins x = some (.type id) → PA X (e :: es) t → PE X (.Call (.Name x p) (e :: es) [] pos) (tCB r t)) : EX X (.Call (.Name x p) (e :: es) [] pos) (dCB r t) :=
  PE.of (h hc hg hm hv ha) dCB_in
/-- finishing: the list's address is locked for good -/
theorem ex_fz (h : EX X e ta) : EX X e (dFz ta) := by
  refine ⟨fun pins s σ H Q I ⟨ρ, M, P, S, A, t, m⟩ => ?_⟩
  refine thn (h.run pins s σ H (fun v H1 => ∃ d M1, Ext H H1 ∧ Abs X.K H1 M1 ∧ Rep X.K H1 d v ∧ fzK P d M1) I ⟨ρ, M, _, S, A, t, fun d M' v H' p e a r => ⟨d, M', e, a, r, p⟩⟩) fun v s1 ⟨w, H1, I1, rv, d, M1, e1, a1, r1, q⟩ => ?_
  obtain ⟨d', M', H', I', e', a', r', p⟩ := fzK_run I1 a1 r1 q
  exact ⟨w, H', I', rv, m _ _ _ _ p (e1.trans e') a' r'⟩
end
end DL
/-! Operators, built-ins and methods over plain data. -/
namespace DL
open PySem PySem.Spec PyProof.Rows L2

/-! ### lists that are read: finished ones, ones under work -/
/-- the items of a list -/
def lsOf (M : Mem) : D → Option (List D)
  | .lst xs => some xs
  | .ref a => match M a with
    | some (.lst xs) => some xs
    | none => none
  | .scr ns => some (ns.map .int)
  | _ => none
/-- the items of a list or a tuple -/
def sqOf (M : Mem) : D → Option (List D)
  | .tup xs => some xs
  | d => lsOf M d
def RdL (K : PySem.W.Frag) (H : Hp) (a : Addr) (vs : List V) : Prop := Rd H a (.lst vs)
section
variable {K : PySem.W.Frag} {H : Hp} {M : Mem} {d : D} {v : V} {ds : List D}
theorem Rep.ls (r : Rep K H d v) (A : Abs K H M) (h : lsOf M d = some ds) : ∃ a vs, v = .ref a ∧ SqL K H a vs ∧ Reps K H ds vs := by
  cases d with
  | lst xs =>
    have e : xs = ds := Option.some.inj h
    subst e
    cases r with
    | lst hH rs => exact ⟨_, _, rfl, .inl (.inr ⟨_, hH⟩), rs⟩
  | ref a =>
    cases r
    unfold lsOf at h
    cases hM : M a with
    | none => simp only [hM] at h; cases h
    | some o =>
      cases o with
      | lst xs =>
        simp only [hM] at h
        have e : xs = ds := Option.some.inj h
        subst e
        obtain ⟨vs, hH, rs⟩ := A.at hM
        exact ⟨a, vs, rfl, .inl (.inl hH), rs⟩
  | scr ns =>
    have e : ns.map D.int = ds := Option.some.inj h
    subst e
    cases r with
    | scr hs =>
      rcases hs with ⟨o, hs⟩ | hs
      · exact ⟨_, _, rfl, .inl (.inr ⟨o, hs⟩), Reps.ints⟩
      · exact ⟨_, _, rfl, hs H, Reps.ints⟩
  | _ => cases h
theorem Rep.lsR (r : Rep K H d v) (A : Abs K H M) (hs : ∀ ns, d ≠ .scr ns) (h : lsOf M d = some ds) : ∃ a vs, v = .ref a ∧ Rd H a (.lst vs) ∧ Reps K H ds vs := by
  cases d with
  | lst xs =>
    have e : xs = ds := Option.some.inj h
    subst e
    cases r with
    | lst hH rs => exact ⟨_, _, rfl, .inr ⟨_, hH⟩, rs⟩
  | ref a =>
    cases r
    unfold lsOf at h
    cases hM : M a with
    | none => simp only [hM] at h; cases h
    | some o =>
      cases o with
      | lst xs =>
        simp only [hM] at h
        have e : xs = ds := Option.some.inj h
        subst e
        obtain ⟨vs, hH, rs⟩ := A.at hM
        exact ⟨a, vs, rfl, .inl hH, rs⟩
  | scr ns => exact absurd rfl (hs ns)
  | _ => cases h
theorem Rep.tp (r : Rep K H (.tup ds) v) : ∃ a vs, v = .ref a ∧ SqT K H a vs ∧ Reps K H ds vs := by
  cases r with
  | tup h rs => exact ⟨_, _, rfl, h, rs⟩
theorem Rep.sq (r : Rep K H d v) (A : Abs K H M) (h : sqOf M d = some ds) : ∃ a vs, v = .ref a ∧ (SqL K H a vs ∨ SqT K H a vs) ∧ Reps K H ds vs := by
  cases d with
  | tup xs =>
    have e : xs = ds := Option.some.inj h
    subst e
    obtain ⟨a, vs, e, h, rs⟩ := r.tp
    exact ⟨a, vs, e, .inr h, rs⟩
  | lst xs => obtain ⟨a, vs, e, h, rs⟩ := r.ls A (ds := ds) h; exact ⟨a, vs, e, .inl h, rs⟩
  | ref a => obtain ⟨a, vs, e, h, rs⟩ := r.ls A (ds := ds) h; exact ⟨a, vs, e, .inl h, rs⟩
  | scr a => obtain ⟨a, vs, e, h, rs⟩ := r.ls A (ds := ds) h; exact ⟨a, vs, e, .inl h, rs⟩
  | _ => cases h
end
section
variable {X : Cx} {pins : List (Addr × Obj)} {σ : L2.St} {H : Hp} {s : Shared} {a : Addr} {xs : List V}
theorem Inv.rdM (I : L2.Inv X pins σ H s) (h : Rd H a (.lst xs)) : xs.length ≤ sizeLine ∧ ∃ (its : List Value) (n : Nat), Vals xs its ∧ xs.length = its.length ∧ s.heap.get? a = some { cls := .type "list", data := .seq its.toArray n } := by
  obtain ⟨z, its, n, r, e⟩ := h.ok I.hok
  exact ⟨z, its, n, r, r.length, e⟩
/-- two lists joined, either one finished or not -/
def rCatR : R2 := fun x y H Q => ∃ l b xs zs, x = .ref l ∧ y = .ref b ∧ Rd H l (.lst xs) ∧ Rd H b (.lst zs) ∧ xs.length + zs.length ≤ sizeLine ∧ ∀ p, H p = none → Q (.ref p) (upd H p (.lst (xs ++ zs)))
theorem op_catR : OpR X (binaryOp .Add) rCatR := by
  intro pins s σ H x y v u Q I rx ry h
  obtain ⟨l, b, xs, zs, rfl, rfl, hH, hB, hz, q⟩ := h
  cases rx
  cases ry
  obtain ⟨z, i1, n1, r1, l1, e1⟩ := Inv.rdM I hH
  obtain ⟨z', i2, n2, r2, l2, e2⟩ := Inv.rdM I hB
  refine PySem.P.add_list e1 e2 ?_ (by simp only [List.size_toArray]; omega)
  rw [show i1.toArray ++ i2.toArray = (i1 ++ i2).toArray by simp]
  exact ⟨.ref _, _, I.lnew (t' := s.toks) (r1.append r2) (by simp only [List.length_append]; omega), rfl, q _ I.fresh⟩
def rExtendR : V → List V → Hp → VK → Prop := fun x vs H Q => ∃ l b xs zs, x = .ref l ∧ vs = [.ref b] ∧ H l = some (.lst xs) ∧ Rd H b (.lst zs) ∧ xs.length + zs.length ≤ sizeLine ∧ Q .non (upd H l (.lst (xs ++ zs)))
theorem mt_extendR : MtM X "list.extend" rExtendR := by
  intro pins s σ H x vs v us Q I rx rv h
  obtain ⟨l, b, xs, zs, rfl, rfl, hH, hB, hz, q⟩ := h
  cases rx
  obtain ⟨u, rfl, ru⟩ := rv.one
  cases ru
  obtain ⟨z, i1, n1, r1, l1, e1⟩ := I.lstM hH
  obtain ⟨z', i2, n2, r2, l2, e2⟩ := Inv.rdM I hB
  have hsz : i1.toArray.size + i2.toArray.size ≤ sizeLine := by simp only [List.size_toArray]; omega
  have hlong : ¬ (!i1.toArray.isEmpty && Builtin.List.listTooLong (i1.toArray.size + i2.toArray.size)) = true := by
    rw [notLongL hsz, Bool.and_false]; exact Bool.false_ne_true
  refine call_meets PySem.F.slot_list_extend ⟨_, e1, rfl⟩ PySem.F.entry_list_extend (PySem.F.args_list_extend_2 _ _)
    (AutoSeq1.list_extend_list_list_0 l i1.toArray n1 b i2.toArray n2 hlong (by simp only [List.size_toArray]; omega) (by omega)) ⟨e1, e2, ?_⟩
  exact ⟨.non, _, I.lset (its' := i1 ++ i2) hH e1 (by simp) (r1.append r2) (by simp only [List.length_append]; omega), rfl, q⟩
/-- sum of a tuple of ints -/
def rSumT (K : PySem.W.Frag) : List V → Hp → VK → Prop := fun vs H Q => ∃ (a : Addr) (ns : List Int), vs = [V.ref a] ∧ SqT K H a (ns.map V.int) ∧ Q (.int ns.sum) H
theorem cr_sumT (hc : X.calm = true) : CallR X (.builtin "sum") (rSumT X.K) := by
  intro pins s σ H vs us Q I r h
  obtain ⟨a, ns, rfl, hs, q⟩ := h
  obtain ⟨its, rv, hl, _⟩ := I.tuple hs
  rw [Vals.ref1 r]
  have hi := rv.ints
  obtain ⟨xs, e⟩ := hi.allInts.items
  have hn : numsOf (intItems xs).toList = ns := by rw [← e]; exact hi.numsOf
  rw [nums_intItems] at hn
  have hl' : s.heap.IsTuple a its.toArray := hl
  rw [e] at hl'
  refine PySem.W.ktm_sumG (I.ok.hd hc) hl' fun h' tk t' hk => ?_
  rw [preSum_eq, List.take_of_length_le (by simp), hn]
  exact ⟨.int _, H, I.kept hk, ⟨_, rfl⟩, q⟩
end

/-! ### arithmetic and joins -/
def rAdd : DR2 := fun x y M P => match x, y with
  | .int i, .int j => P (.int (i + j)) M
  | .str a, .str b => a.length + b.length ≤ sizeLine ∧ P (.str (a ++ b)) M
  | .tup xs, .tup ys => xs.length + ys.length ≤ sizeLine ∧ P (.tup (xs ++ ys)) M
  | .lst xs, .lst ys => xs.length + ys.length ≤ sizeLine ∧ ∀ p, M p = none → P (.ref p) (mset M p (.lst (xs ++ ys)))
  | .ref a, .lst ys => ∃ xs, M a = some (.lst xs) ∧ xs.length + ys.length ≤ sizeLine ∧ ∀ p, M p = none → P (.ref p) (mset M p (.lst (xs ++ ys)))
  | .lst xs, .ref b => ∃ ys, M b = some (.lst ys) ∧ xs.length + ys.length ≤ sizeLine ∧ ∀ p, M p = none → P (.ref p) (mset M p (.lst (xs ++ ys)))
  | .ref a, .ref b => ∃ xs ys, M a = some (.lst xs) ∧ M b = some (.lst ys) ∧ xs.length + ys.length ≤ sizeLine ∧ ∀ p, M p = none → P (.ref p) (mset M p (.lst (xs ++ ys)))
  | _, _ => False
section
variable {X : Cx}
theorem cat_in {K : PySem.W.Frag} {H : Hp} {M : Mem} {dx dy : D} {x y : V} {xs ys : List D} {P : D → Mem → Prop} {Q : VK} (rx : Rep K H dx x) (ry : Rep K H dy y) (A : Abs K H M) (hx : ∀ ns, dx ≠ .scr ns) (hy : ∀ ns, dy ≠ .scr ns)
    (h1 : lsOf M dx = some xs) (h2 : lsOf M dy = some ys) (hz : xs.length + ys.length ≤ sizeLine) (q : ∀ p, M p = none → P (.ref p) (mset M p (.lst (xs ++ ys)))) (m : Met K H P Q) : rCatR x y H Q := by
  obtain ⟨a, vs, rfl, ha, r1⟩ := rx.lsR A hx h1
  obtain ⟨b, ws, rfl, hb, r2⟩ := ry.lsR A hy h2
  exact ⟨a, b, vs, ws, rfl, rfl, ha, hb, by rw [← r1.length, ← r2.length]; exact hz, fun p hp => m _ _ _ _ (q p (A.free hp)) (Ext.new hp) (A.new hp (r1.append r2)) (.ref p)⟩
theorem o_add : OX X (binaryOp .Add) rAdd := OpR.of (op_add.or (op_add_str.or (op_catA.or op_catR))) fun x y H Q ⟨dx, dy, M, P, rx, ry, A, h, m⟩ => by
  unfold rAdd at h
  split at h
  · cases rx; cases ry
    exact .inl ⟨_, _, rfl, rfl, m _ M _ H h (Ext.refl H) A (.int _)⟩
  · cases rx; cases ry
    exact .inr (.inl ⟨_, _, rfl, rfl, h.1, m _ M _ H h.2 (Ext.refl H) A (.str _)⟩)
  · rename_i xs ys
    obtain ⟨a, vs, rfl, ha, r1⟩ := rx.tp
    obtain ⟨b, ws, rfl, hb, r2⟩ := ry.tp
    refine .inr (.inr (.inl ⟨a, b, vs, ws, rfl, rfl, ha, hb, by rw [← r1.length, ← r2.length]; exact h.1, fun e => ?_, fun _ e => ?_, fun _ _ p hp => ?_⟩))
    · subst e
      cases r1
      exact m _ M _ H h.2 (Ext.refl H) A ry
    · subst e
      cases r2
      rw [List.append_nil] at h
      exact m _ M _ H h.2 (Ext.refl H) A rx
    · exact m _ M _ _ h.2 (Ext.new hp) (A.more hp) (.tup (.inl (.inl upd_same)) ((r1.append r2).ext (Ext.new hp)))
  · exact .inr (.inr (.inr (cat_in rx ry A (fun _ z => nomatch z) (fun _ z => nomatch z) rfl rfl h.1 h.2 m)))
  · obtain ⟨xs, hM, h⟩ := h
    exact .inr (.inr (.inr (cat_in rx ry A (fun _ z => nomatch z) (fun _ z => nomatch z) (by simp only [lsOf, hM]) rfl h.1 h.2 m)))
  · obtain ⟨ys, hM, h⟩ := h
    exact .inr (.inr (.inr (cat_in rx ry A (fun _ z => nomatch z) (fun _ z => nomatch z) rfl (by simp only [lsOf, hM]) h.1 h.2 m)))
  · obtain ⟨xs, ys, hM, hM2, h⟩ := h
    exact .inr (.inr (.inr (cat_in rx ry A (fun _ z => nomatch z) (fun _ z => nomatch z) (by simp only [lsOf, hM]) (by simp only [lsOf, hM2]) h.1 h.2 m)))
  · exact h.elim
end
/-- two ints -/
def rInt (C : Int → Int → Prop) (g : Int → Int → D) : DR2 := fun x y M P => match x, y with
  | .int i, .int j => C i j ∧ P (g i j) M
  | _, _ => False
def gInt (g : Int → Int → Int) : Int → Int → D := fun i j => .int (g i j)
def gBl (g : Int → Int → Bool) : Int → Int → D := fun i j => .bl (g i j)
def CTrue : Int → Int → Prop := fun _ _ => True
abbrev rSub : DR2 := rInt CTrue (gInt fun i j => i - j)
abbrev rDiv : DR2 := rInt CDiv (gInt fun i j => i / j)
abbrev rMod : DR2 := rInt (fun _ j => 0 < j) (gInt fun i j => i % j)
abbrev rPow : DR2 := rInt CPow (gInt fun i j => i ^ j.toNat)
abbrev rLt : DR2 := rInt CTrue (gBl fun i j => decide (i < j))
abbrev rLe : DR2 := rInt CTrue (gBl fun i j => decide (i ≤ j))
abbrev rGt : DR2 := rInt CTrue (gBl fun i j => decide (j < i))
abbrev rGe : DR2 := rInt CTrue (gBl fun i j => decide (j ≤ i))
section
variable {X : Cx}
theorem o_int {f : Value → Value → Sem Value} {C : Int → Int → Prop} {g : Int → Int → Int} (h : OpR X f (rI C fun i j => .int (g i j))) : OX X f (rInt C (gInt g)) := OpR.of h fun x y H Q ⟨dx, dy, M, P, rx, ry, A, h, m⟩ => by
  unfold rInt at h
  split at h
  · cases rx; cases ry
    exact ⟨_, _, rfl, rfl, h.1, m _ M _ H h.2 (Ext.refl H) A (.int _)⟩
  · exact h.elim
theorem o_int0 {f : Value → Value → Sem Value} {g : Int → Int → Int} (h : OpR X f (rI0 fun i j => .int (g i j))) : OX X f (rInt CTrue (gInt g)) := OpR.of h fun x y H Q ⟨dx, dy, M, P, rx, ry, A, h, m⟩ => by
  unfold rInt at h
  split at h
  · cases rx; cases ry
    exact ⟨_, _, rfl, rfl, m _ M _ H h.2 (Ext.refl H) A (.int _)⟩
  · exact h.elim
theorem o_bl0 {f : Value → Value → Sem Value} {g : Int → Int → Bool} (h : OpR X f (rI0 fun i j => .bl (g i j))) : OX X f (rInt CTrue (gBl g)) := OpR.of h fun x y H Q ⟨dx, dy, M, P, rx, ry, A, h, m⟩ => by
  unfold rInt at h
  split at h
  · cases rx; cases ry
    exact ⟨_, _, rfl, rfl, m _ M _ H h.2 (Ext.refl H) A (.bl _)⟩
  · exact h.elim
theorem o_sub : OX X (binaryOp .Sub) rSub := o_int0 op_sub
theorem o_div : OX X (binaryOp .FloorDiv) rDiv := o_int op_fdiv
theorem o_mod : OX X (binaryOp .Mod) rMod := o_int op_mod
theorem o_pow : OX X (binaryOp .Pow) rPow := o_int op_pow
theorem o_lt : OX X (compareOp .Lt) rLt := o_bl0 op_lt
theorem o_le : OX X (compareOp .LtE) rLe := o_bl0 op_le
theorem o_gt : OX X (compareOp .Gt) rGt := o_bl0 op_gt
theorem o_ge : OX X (compareOp .GtE) rGe := o_bl0 op_ge
end

/-! ### plain data as PyData: ==, != -/
mutual
def pd (M : Mem) : D → Option PyData
  | .non => some .none
  | .bl b => some (.bool b)
  | .int i => some (.int i)
  | .str x => some (.str x)
  | .tup xs => (pds M xs).map .tuple
  | .lst xs => (pds M xs).map .list
  | .scr ns => some (.list (ns.map .int))
  | .ref _ => none
def pds (M : Mem) : List D → Option (List PyData)
  | [] => some []
  | d :: r => match pd M d, pds M r with
    | some x, some xs => some (x :: xs)
    | _, _ => none
end
def pdT (M : Mem) : D → Option PyData
  | .ref a => match M a with
    | some (.lst xs) => (pds M xs).map .list
    | none => none
  | d => pd M d
mutual
theorem Rep.dp {K : PySem.W.Frag} {H : Hp} {M : Mem} : ∀ {d : D} {v : V} {x : PyData}, Rep K H d v → pd M d = some x → Dp K H v x
  | .non, _, _, .non, e => by simp only [pd, Option.some.injEq] at e; subst e; exact .non
  | .bl b, _, _, .bl _, e => by simp only [pd, Option.some.injEq] at e; subst e; exact .bl b
  | .int i, _, _, .int _, e => by simp only [pd, Option.some.injEq] at e; subst e; exact .int i
  | .str i, _, _, .str _, e => by simp only [pd, Option.some.injEq] at e; subst e; exact .str i
  | .tup xs, _, _, .tup h r, e => by
    simp only [pd, Option.map_eq_some_iff] at e
    obtain ⟨ys, e1, e2⟩ := e
    subst e2
    exact .tup h (Reps.dp r e1)
  | .lst xs, _, _, .lst h r, e => by
    simp only [pd, Option.map_eq_some_iff] at e
    obtain ⟨ys, e1, e2⟩ := e
    subst e2
    exact .lst (.inl (.inr ⟨_, h⟩)) (Reps.dp r e1)
  | .scr ns, .ref a, _, .scr h, e => by
    simp only [pd, Option.some.injEq] at e
    subst e
    have hs : SqL K H a (ns.map V.int) := by
      rcases h with ⟨o, h⟩ | h
      · exact .inl (.inr ⟨o, h⟩)
      · exact h H
    refine .lst hs ?_
    clear hs h
    induction ns with
    | nil => exact .nil
    | cons n r ih => exact .cons (.int n) ih
  | .ref a, _, _, .ref _, e => by simp only [pd] at e; cases e
theorem Reps.dp {K : PySem.W.Frag} {H : Hp} {M : Mem} : ∀ {ds : List D} {vs : List V} {xs : List PyData}, Reps K H ds vs → pds M ds = some xs → DpAll K H vs xs
  | [], _, _, .nil, e => by simp only [pds, Option.some.injEq] at e; subst e; exact .nil
  | d :: r, _, _, .cons h t, e => by
    simp only [pds] at e
    split at e
    · rename_i x ys e1 e2
      cases e
      exact .cons (Rep.dp h e1) (Reps.dp t e2)
    · cases e
end
theorem Rep.dpT {K : PySem.W.Frag} {H : Hp} {M : Mem} {d : D} {v : V} {x : PyData} (r : Rep K H d v) (A : Abs K H M) (e : pdT M d = some x) : Dp K H v x := by
  cases d with
  | ref a =>
    cases r
    unfold pdT at e
    cases hM : M a with
    | none => simp only [hM] at e; cases e
    | some o =>
      cases o with
      | lst xs =>
        simp only [hM, Option.map_eq_some_iff] at e
        obtain ⟨ys, e1, e2⟩ := e
        subst e2
        obtain ⟨vs, hH, rs⟩ := A.at hM
        exact .lst (.inl (.inl hH)) (rs.dp e1)
  | _ => exact r.dp (M := M) e
def rEq : DR2 := fun x y M P => (∃ d e, pdT M x = some d ∧ pdT M y = some e ∧ SeqAt.shaped d = true ∧ SeqAt.shaped e = true ∧ P (.bl (PyData.eqv d e)) M) ∨ ∃ a b, x = .str a ∧ y = .str b ∧ P (.bl (decide (a = b))) M
def rNe : DR2 := fun x y M P => (∃ d e, pdT M x = some d ∧ pdT M y = some e ∧ SeqAt.shaped d = true ∧ SeqAt.shaped e = true ∧ P (.bl (!PyData.eqv d e)) M) ∨ ∃ a b, x = .str a ∧ y = .str b ∧ P (.bl (!decide (a = b))) M
section
variable {X : Cx}
theorem dec_strV (a b : Str) : decide (V.str a = V.str b) = decide (a = b) := by
  rw [Bool.eq_iff_iff]
  simp
theorem o_eq (hu : X.A.units + 64 < cLine) : OX X (compareOp .Eq) rEq := OpR.of ((op_eqD hu).or op_eq) fun x y H Q ⟨dx, dy, M, P, rx, ry, A, q, m⟩ => by
  rcases q with ⟨d, e, h1, h2, h3, h4, h⟩ | ⟨a, b, rfl, rfl, h⟩
  · exact .inl ⟨d, e, rx.dpT A h1, ry.dpT A h2, h3, h4, m _ M _ H h (Ext.refl H) A (.bl _)⟩
  · cases rx
    cases ry
    exact .inr ⟨rfl, m _ M _ H h (Ext.refl H) A (by rw [dec_strV]; exact .bl _)⟩
theorem o_ne (hu : X.A.units + 64 < cLine) : OX X (compareOp .NotEq) rNe := OpR.of ((op_neD hu).or op_ne) fun x y H Q ⟨dx, dy, M, P, rx, ry, A, q, m⟩ => by
  rcases q with ⟨d, e, h1, h2, h3, h4, h⟩ | ⟨a, b, rfl, rfl, h⟩
  · exact .inl ⟨d, e, rx.dpT A h1, ry.dpT A h2, h3, h4, m _ M _ H h (Ext.refl H) A (.bl _)⟩
  · cases rx
    cases ry
    exact .inr ⟨rfl, m _ M _ H h (Ext.refl H) A (by rw [dec_strV]; exact .bl _)⟩
/-- is None -/
def isNon : D → Bool
  | .non => true
  | _ => false
def rIsN : DR2 := fun x y M P => match y with
  | .non => P (.bl (isNon x)) M
  | _ => False
def rNotN : DR2 := fun x y M P => match y with
  | .non => P (.bl (!isNon x)) M
  | _ => False
theorem Rep.non_iff {K : PySem.W.Frag} {H : Hp} {d : D} {v : V} (r : Rep K H d v) : decide (v = .non) = isNon d := by
  cases r <;> rfl
theorem o_isN : OX X (compareOp .Is) rIsN := OpR.of op_isN fun x y H Q ⟨dx, dy, M, P, rx, ry, A, h, m⟩ => by
  unfold rIsN at h
  split at h
  · cases ry
    exact ⟨rfl, m _ M _ H h (Ext.refl H) A (by rw [rx.non_iff]; exact .bl _)⟩
  · exact h.elim
theorem o_notN : OX X (compareOp .IsNot) rNotN := OpR.of op_notN fun x y H Q ⟨dx, dy, M, P, rx, ry, A, h, m⟩ => by
  unfold rNotN at h
  split at h
  · cases ry
    exact ⟨rfl, m _ M _ H h (Ext.refl H) A (by rw [rx.non_iff]; exact .bl _)⟩
  · exact h.elim
end

/-! ### items and slices -/
def rAt : DR2 := fun x y M P => match y with
  | .int i => ∃ xs d, sqOf M x = some xs ∧ atI xs i = some d ∧ P d M
  | _ => False
theorem atI_reps {K : PySem.W.Frag} {H : Hp} {ds : List D} {vs : List V} (r : Reps K H ds vs) {i : Int} {d : D} (h : atI ds i = some d) : ∃ v, atI vs i = some v ∧ Rep K H d v := by
  unfold atI at h ⊢
  rw [← r.length]
  cases e : ixN ds.length i with
  | none => rw [e] at h; cases h
  | some j => rw [e] at h; exact r.get h
abbrev IxX (X : Cx) (r : DR2) : Prop := IxR X (L2R X.K r)
def tailOp (r : DR2) (ta tb : DE) : DE := dOp r ta tb
section
variable {X : Cx} {a b : Expr} {ta tb : DE} {pos : Pos}
theorem i_at : IxX X rAt := by
  intro value slice pins s σ H x y v u Q I rx ry ⟨dx, dy, M, P, hx, hy, A, h, m⟩ hs
  unfold rAt at h
  split at h
  · obtain ⟨xs, d, h1, h2, h⟩ := h
    obtain ⟨p, vs, rfl, hq, rs⟩ := hx.sq A h1
    cases hy
    obtain ⟨w, hw, rw'⟩ := atI_reps rs h2
    have q : Q w H := m d M w H h (Ext.refl H) A rw'
    rcases hq with hq | hq
    · exact ix_list value slice pins s σ H _ _ v u Q I rx ry ⟨p, vs, _, w, rfl, rfl, hq, hw, q⟩ hs
    · exact ix_tup value slice pins s σ H _ _ v u Q I rx ry ⟨p, vs, _, w, rfl, rfl, hq, hw, q⟩ hs
  · exact h.elim
theorem ex_ix {r : DR2} (hr : IxX X r) (ha : EX X a ta) (hb : EX X b tb) (hs : PlainIx b) : EX X (.Subscript a b pos) (dOp r ta tb) := PE.of (pe_ix hr ha hb hs) dOp_in
end
/-- the items of xs[lo:hi] -/
def cutD (xs : List D) (lo hi : Option Int) : List D := (xs.drop (HT.sIx xs.length 0 lo)).take (HT.sIx xs.length xs.length hi - HT.sIx xs.length 0 lo)
theorem cutD_reps {K : PySem.W.Frag} {H : Hp} {ds : List D} {vs : List V} (r : Reps K H ds vs) (lo hi : Option Int) : Reps K H (cutD ds lo hi) (cutV vs lo hi) := by
  unfold cutD cutV
  rw [← r.length]
  exact (r.drop _).take _
def rCut (x : D) (lo hi : Option Int) (M : Mem) (P : D → Mem → Prop) : Prop := match x with
  | .tup xs => P (.tup (cutD xs lo hi)) M
  | .str x => x.length ≤ sizeLine ∧ P (.str (cutS x lo hi)) M
  | d => ∃ xs, lsOf M d = some xs ∧ ∀ p, M p = none → P (.ref p) (mset M p (.lst (cutD xs lo hi)))
/-- a part of a slice -/
abbrev DO := Rho → Mem → (Option Int → Mem → Prop) → Prop
def dNoPart : DO := fun _ M P => P none M
def dPart (te : DE) : DO := fun ρ M P => te ρ M fun x M1 => match x with
  | .int i => P (some i) M1
  | _ => False
def LO (K : PySem.W.Frag) (t : DO) : L2.TO := fun σ H Q => ∃ ρ M P, RepS K H ρ σ ∧ Abs K H M ∧ t ρ M P ∧ ∀ b M' H', P b M' → Ext H H' → Abs K H' M' → Q b H'
def dSl (te : DE) (tl th : DO) : DE := fun ρ M P => te ρ M fun x M1 => tl ρ M1 fun l M2 => th ρ M2 fun u M3 => rCut x l u M3 P
section
variable {X : Cx} {e : Expr} {te : DE} {lo hi : Option Expr} {tl th : DO} {pos p2 : Pos}
abbrev PX (X : Cx) (e : Option Expr) (t : DO) : Prop := PO X e (LO X.K t)
theorem PO.of {e : Option Expr} {t t' : L2.TO} (h : PO X e t) (w : ∀ σ H Q, t' σ H Q → t σ H Q) : PO X e t' := ⟨fun pins s σ H Q I q => h.run pins s σ H Q I (w σ H Q q)⟩
theorem px_none : PX X none dNoPart := PO.of po_none fun σ H Q ⟨ρ, M, P, S, A, t, m⟩ => m _ M H t (Ext.refl H) A
theorem px_some (h : EX X e te) : PX X (some e) (dPart te) := PO.of (po_some h) fun σ H Q ⟨ρ, M, P, S, A, t, m⟩ => ⟨ρ, M, _, S, A, t, fun d M' v H' p e a r => by
  cases d with
  | int i => cases r; exact ⟨i, rfl, m _ M' H' p e a⟩
  | _ => exact p.elim⟩
theorem ex_slice (he : EX X e te) (hl : PX X lo tl) (hu : PX X hi th) : EX X (.Subscript e (.Slice lo hi none p2) pos) (dSl te tl th) :=
  PE.of (pe_slice ((sl_list.or sl_tupA).or sl_str) he hl hu) fun σ H Q ⟨ρ, M, P, S, A, t, m⟩ => ⟨ρ, M, _, S, A, t, fun x M1 v H1 t1 e1 a1 r1 => ⟨ρ, M1, _, S.ext e1, a1, t1, fun l M2 H2 t2 e2 a2 =>
    ⟨ρ, M2, _, (S.ext e1).ext e2, a2, t2, fun u M3 H3 t3 e3 a3 => by
      have r3 := (r1.ext e2).ext e3
      have E := (e1.trans e2).trans e3
      have go : ∀ xs, lsOf M3 x = some xs → (∀ p, M3 p = none → P (.ref p) (mset M3 p (.lst (cutD xs l u)))) → rSlL X.K v l u H3 Q := fun xs hx q => by
        obtain ⟨a, vs, rfl, hq, rs⟩ := r3.ls a3 hx
        exact ⟨a, vs, rfl, hq, fun p hp => m _ _ _ _ (q p (a3.free hp)) (E.trans (Ext.new hp)) (a3.new hp (cutD_reps rs l u)) (.ref p)⟩
      unfold rCut at t3
      split at t3
      · rename_i xs0
        obtain ⟨a, vs, rfl, hq, rs⟩ := r3.tp
        refine .inl (.inr ⟨a, vs, rfl, hq, fun w => ?_, fun w p hp => ?_⟩)
        · have ew : cutD xs0 l u = xs0 := by
            unfold cutD
            rw [rs.length, w.1, w.2]
            simp only [List.drop_zero, Nat.sub_zero]
            rw [← rs.length]
            exact List.take_length
          rw [ew] at t3
          exact m _ M3 _ H3 t3 E a3 r3
        · exact m _ M3 _ _ t3 (E.trans (Ext.new hp)) (a3.more hp) (.tup (.inl (.inl upd_same)) ((cutD_reps rs l u).ext (Ext.new hp)))
      · cases r3
        exact .inr ⟨_, rfl, t3.1, m _ M3 _ H3 t3.2 E a3 (.str _)⟩
      · obtain ⟨xs, hx, q⟩ := t3
        exact .inl (.inl (go xs hx q))⟩⟩⟩
end
end DL
/-! Built-ins and methods over plain data. -/
namespace DL
open PySem PySem.Spec PyProof.Rows L2

/-! ### products -/
theorem tuple_mul1 (l : Addr) (items : Array Value) (n : Nat) (dd : Option Addr) (sl : Array (Option Value)) (x : Int) (u : Tok) (c0 : (decide (x < -(2 ^ 63)) || decide (x ≥ 2 ^ 63)) = false) (c1 : (items.isEmpty || x == 1) = true) :
    Meets (Builtin.«tuple.__mul__» ⟨[.ref l, .int x u], []⟩) (fun _ R s => s.heap.get? l = some { cls := .type "tuple", dict := dd, data := .seq items n, slots := sl } ∧ R (.ok (.ret (Value.ref l))) s) :=
  .of_wp fun prog w A R s h => by
    obtain ⟨hp, g, d, tk, os⟩ := s
    obtain ⟨hl, h⟩ := h
    have f1 := AutoSeq1.idx_int
    wp_walk using wpAny_loadPart' hl
    refine wpAny_ite_false (decide_eq_false (by rw [c0]; exact Bool.false_ne_true)) ?_
    wp_walk using wpAny_loadPart' hl
    exact ⟨_, rfl, h⟩
theorem tuple_mul0 (l : Addr) (items : Array Value) (n : Nat) (dd : Option Addr) (sl : Array (Option Value)) (x : Int) (u : Tok) (c0 : (decide (x < -(2 ^ 63)) || decide (x ≥ 2 ^ 63)) = false) (c1 : (items.isEmpty || x == 1) = false) (c2 : (decide (x ≤ 0) || items.isEmpty) = true) :
    Meets (Builtin.«tuple.__mul__» ⟨[.ref l, .int x u], []⟩) (fun _ R s => s.heap.get? l = some { cls := .type "tuple", dict := dd, data := .seq items n, slots := sl } ∧
      R (.ok (.ret (Value.ref s.heap.objs.size))) { s with heap := s.heap.push { cls := Value.type "tuple", data := Data.seq #[] }, toks := s.toks }) :=
  .of_wp fun prog w A R s h => by
    obtain ⟨hp, g, d, tk, os⟩ := s
    obtain ⟨hl, h⟩ := h
    have f1 := AutoSeq1.idx_int
    wp_walk using wpAny_loadPart' hl
    refine wpAny_ite_false (decide_eq_false (by rw [c0]; exact Bool.false_ne_true)) ?_
    wp_walk using wpAny_loadPart' hl
    repeat (first
      | exact ⟨_, rfl, h⟩
      | (refine wpAny_ite_false (decide_eq_false (by rw [c1]; exact Bool.false_ne_true)) ?_; wp_walk using wpAny_loadPart' hl)
      | (refine wpAny_ite_true (decide_eq_true c2) ?_; wp_walk using wpAny_loadPart' hl))
section
variable {X : Cx}
/-- a small tuple, often: none, itself, so often -/
def rRepA (K : PySem.W.Frag) : R2 := fun x y H Q => ∃ l k xs, x = .ref l ∧ y = .int k ∧ SqT K H l xs ∧ -1000 ≤ k ∧ k ≤ 1000 ∧ xs.length ≤ 1000 ∧
  ((xs = [] ∨ k = 1) → Q (.ref l) H) ∧ (¬ (xs = [] ∨ k = 1) → ∀ p, H p = none → Q (.ref p) (upd H p (.tup (List.replicate k.toNat xs).flatten)))
theorem op_repA : OpR X (binaryOp .Mult) (rRepA X.K) := by
  intro pins s σ H x y v u Q I rx ry h
  obtain ⟨l, k, xs, rfl, rfl, hT, h0, h1, hz, q1, q2⟩ := h
  by_cases hbig : xs ≠ [] ∧ 2 ≤ k
  · exact op_repT pins s σ H _ _ v u Q I rx ry ⟨l, k, xs, rfl, rfl, hT, hbig.1, hbig.2, h1, hz, q2 (fun z => z.elim hbig.1 (fun e => by omega))⟩
  · cases rx
    obtain ⟨t, rfl⟩ := ry
    obtain ⟨its, r, ⟨⟨cls, dd, data, sl⟩, ho, hc, n, hd⟩, hs⟩ := I.tuple hT
    simp only at hc hd
    subst hc hd
    have c0 : (decide (k < -(2 ^ 63)) || decide (k ≥ 2 ^ 63)) = false := by
      rw [decide_eq_false (by omega), decide_eq_false (by omega)] <;> rfl
    have road : ∀ {R : Value → Shared → Prop}, (wpAny (model X.prog X.w) X.A (call (.builtin "tuple.__mul__") [.ref l, .int k t]) R X.xe s) → wpAny (model X.prog X.w) X.A (binaryOp .Mult (.ref l) (.int k t)) R X.xe s := fun {R} hh =>
      wpAny_binaryOp_repeat_ref (T := "tuple") (U := "int") (by decide) ⟨_, ho, rfl⟩ (fun s' => typeIs_int s' k t) noFill_tuple_mul PySem.F.fills_int_mul PySem.F.slot_int_rmul repeat_tuple PySem.F.slot_int_index.lookup
        (call_meets PySem.F.slot_int_rmul (typeIs_int s k t) PySem.F.entry_int_rmul (PySem.F.args_int_rmul_2 _ _) (int_rmul_tuple k t l its.toArray n dd sl) ⟨ho, rfl, ⟨_, ho, rfl⟩, hh⟩)
    refine road ?_
    by_cases hw : xs = [] ∨ k = 1
    · have c1 : (its.toArray.isEmpty || k == 1) = true := by
        rcases hw with e | e
        · subst e
          cases r
          rfl
        · subst e
          simp
      exact call_meets PySem.F.slot_tuple_mul ⟨_, ho, rfl⟩ PySem.F.entry_tuple_mul (PySem.F.args_tuple_mul_2 _ _) (tuple_mul1 l its.toArray n dd sl k t c0 c1) ⟨ho, .ref l, H, I, rfl, q1 hw⟩
    · have hx : xs ≠ [] := fun e => hw (.inl e)
      have hk1 : k ≠ 1 := fun e => hw (.inr e)
      have hk0 : k ≤ 0 := by
        have : ¬ 2 ≤ k := fun e => hbig ⟨hx, e⟩
        omega
      have hn : its ≠ [] := fun e => by
        subst e
        cases r
        exact hx rfl
      have hi : its.toArray.isEmpty = false := by
        cases its with
        | nil => exact absurd rfl hn
        | cons a b => rfl
      have c1 : (its.toArray.isEmpty || k == 1) = false := by
        rw [hi, Bool.false_or]; exact beq_eq_false_iff_ne.mpr hk1
      have c2 : (decide (k ≤ 0) || its.toArray.isEmpty) = true := by rw [decide_eq_true hk0, Bool.true_or]
      refine call_meets PySem.F.slot_tuple_mul ⟨_, ho, rfl⟩ PySem.F.entry_tuple_mul (PySem.F.args_tuple_mul_2 _ _) (tuple_mul0 l its.toArray n dd sl k t c0 c1 c2) ⟨ho, ?_⟩
      have e0 : (List.replicate k.toNat xs).flatten = [] := by rw [show k.toNat = 0 by omega]; rfl
      have q2' := q2 hw
      rw [e0] at q2'
      exact ⟨.ref s.heap.objs.size, _, I.laid (t' := s.toks) (o := .tup []) (fun b ob q => Heap.get?_push_of_some _ q) (Nat.le_refl _) ⟨Nat.zero_le _, [], .nil, IsTup.new _ _⟩, rfl, q2' _ (I.hok.fresh (Nat.le_refl _))⟩
def rRepR : R2 := fun x y H Q => ∃ l k xs, x = .ref l ∧ y = .int k ∧ Rd H l (.lst xs) ∧ -(2 ^ 63) ≤ k ∧ k < 2 ^ 63 ∧ xs.length * k.toNat ≤ sizeLine ∧
  ∀ p, H p = none → Q (.ref p) (upd H p (.lst (List.replicate k.toNat xs).flatten))
end
def rMul : DR2 := fun x y M P => match x, y with
  | .int i, .int j => CMul i j ∧ P (.int (i * j)) M
  | .tup xs, .int k => -1000 ≤ k ∧ k ≤ 1000 ∧ xs.length ≤ 1000 ∧ P (.tup (List.replicate k.toNat xs).flatten) M
  | .ref a, .int k => ∃ xs, M a = some (.lst xs) ∧ -(2 ^ 63) ≤ k ∧ k < 2 ^ 63 ∧ xs.length * k.toNat ≤ sizeLine ∧ ∀ p, M p = none → P (.ref p) (mset M p (.lst (List.replicate k.toNat xs).flatten))
  | _, _ => False
theorem rep_one {α : Type} (xs : List α) : (List.replicate (1 : Int).toNat xs).flatten = xs := by simp
theorem rep_nil {α : Type} (n : Nat) : (List.replicate n ([] : List α)).flatten = [] := by simp
section
variable {X : Cx}
theorem o_mul : OX X (binaryOp .Mult) rMul := OpR.of (op_mul.or (op_repA.or op_rep)) fun x y H Q ⟨dx, dy, M, P, rx, ry, A, h, m⟩ => by
  unfold rMul at h
  split at h
  · cases rx; cases ry
    exact .inl ⟨_, _, rfl, rfl, h.1, m _ M _ H h.2 (Ext.refl H) A (.int _)⟩
  · obtain ⟨h0, h1, h2, h⟩ := h
    rename_i xs k
    obtain ⟨a, vs, rfl, ha, r1⟩ := rx.tp
    cases ry
    refine .inr (.inl ⟨a, k, vs, rfl, rfl, ha, h0, h1, by rw [← r1.length]; exact h2, fun w => ?_, fun w p hp => ?_⟩)
    · have e : (List.replicate k.toNat xs).flatten = xs := by
        rcases w with w | w
        · subst w
          cases r1
          exact rep_nil _
        · subst w
          exact rep_one xs
      rw [e] at h
      exact m _ M _ H h (Ext.refl H) A rx
    · exact m _ M _ _ h (Ext.new hp) (A.more hp) (.tup (.inl (.inl upd_same)) ((r1.rep _).ext (Ext.new hp)))
  · obtain ⟨xs, hM, h0, h1, h2, h⟩ := h
    cases rx; cases ry
    obtain ⟨vs, hH, rs⟩ := A.at hM
    exact .inr (.inr ⟨_, _, vs, rfl, rfl, hH, h0, h1, by rw [← rs.length]; exact h2, fun p hp => m _ _ _ _ (h p (A.free hp)) (Ext.new hp) (A.new hp (rs.rep _)) (.ref p)⟩)
  · exact h.elim
theorem o_neg : UnR X (unaryOp .USub) (fun x H Q => ∃ dx M P, Rep X.K H dx x ∧ Abs X.K H M ∧ (match dx with
    | .int i => P (.int (-i)) M
    | _ => False) ∧ Met X.K H P Q) := fun pins s σ H x v Q I rx ⟨dx, M, P, hx, A, h, m⟩ => by
  split at h
  · cases hx
    exact un_neg pins s σ H _ v Q I rx ⟨_, rfl, m _ M _ H h (Ext.refl H) A (.int _)⟩
  · exact h.elim
end
/-- -x -/
def dNeg (ta : DE) : DE := fun ρ M P => ta ρ M fun x M1 => match x with
  | .int i => P (.int (-i)) M1
  | _ => False
theorem ex_neg {X : Cx} {a : Expr} {ta : DE} {pos : Pos} (ha : EX X a ta) : EX X (.UnaryOp .USub a pos) (dNeg ta) :=
  PE.of (pe_un o_neg ha) fun σ H Q ⟨ρ, M, P, S, A, t, m⟩ => ⟨ρ, M, _, S, A, t, fun x M1 v H1 t1 e1 a1 r1 => ⟨x, M1, P, r1, a1, t1, m.ext e1⟩⟩

/-! ### built-ins of one value -/
def rLen : DR := fun xs M P => match xs with
  | [.str z] => z.length ≤ sizeLine ∧ P (.int z.length) M
  | [x] => ∃ ys, sqOf M x = some ys ∧ P (.int ys.length) M
  | _ => False
def rAbs : DR := fun xs M P => match xs with
  | [.int i] => P (.int (if i < 0 then -i else i)) M
  | _ => False
def rToInt : DR := fun xs M P => match xs with
  | [.int i] => P (.int i) M
  | [.bl k] => P (.int (if k then 1 else 0)) M
  | _ => False
def rMax2 : DR := fun xs M P => match xs with
  | [.int i, .int j] => P (.int (if j > i then j else i)) M
  | _ => False
def rMin2 : DR := fun xs M P => match xs with
  | [.int i, .int j] => P (.int (if j < i then j else i)) M
  | _ => False
def rStr : DR := fun xs M P => match xs with
  | [.int i] => i.natAbs.log2 < 1920 ∧ P (.str (toString i)) M
  | _ => False
def rToTup : DR := fun xs M P => match xs with
  | [x] => ∃ ys, sqOf M x = some ys ∧ P (.tup ys) M
  | _ => False
def rToLst : DR := fun xs M P => match xs with
  | [x] => ∃ ys, sqOf M x = some ys ∧ ∀ p, M p = none → P (.ref p) (mset M p (.lst ys))
  | _ => False
def rAllD : DR := fun xs M P => match xs with
  | [x] => ∃ bs : List Bool, lsOf M x = some (bs.map .bl) ∧ P (.bl (bs.all id)) M
  | _ => False
def rAnyD : DR := fun xs M P => match xs with
  | [x] => ∃ bs : List Bool, lsOf M x = some (bs.map .bl) ∧ P (.bl (bs.any id)) M
  | _ => False
def rSumD : DR := fun xs M P => match xs with
  | [x] => ∃ ns : List Int, sqOf M x = some (ns.map .int) ∧ P (.int ns.sum) M
  | _ => False
def rMaxD : DR := fun xs M P => match xs with
  | [x] => ∃ ns : List Int, lsOf M x = some (ns.map .int) ∧ 0 < ns.length ∧ ∀ m, m ∈ ns → (∀ y, y ∈ ns → y ≤ m) → P (.int m) M
  | _ => False
def rMinD : DR := fun xs M P => match xs with
  | [x] => ∃ ns : List Int, lsOf M x = some (ns.map .int) ∧ 0 < ns.length ∧ ∀ m, m ∈ ns → (∀ y, y ∈ ns → m ≤ y) → P (.int m) M
  | _ => False
def rSortI' : DR := fun xs M P => match xs with
  | [x] => ∃ ns : List Int, lsOf M x = some (ns.map .int) ∧ ∀ (ns' : List Int) p, ns'.Perm ns → ns'.Pairwise (· ≤ ·) → M p = none → P (.ref p) (mset M p (.lst (ns'.map .int)))
  | _ => False
section
variable {X : Cx}
theorem Reps.in1 {K : PySem.W.Frag} {H : Hp} {d : D} {vs : List V} (r : Reps K H [d] vs) : ∃ v, vs = [v] ∧ Rep K H d v := by
  cases r with
  | cons r t => cases t; exact ⟨_, rfl, r⟩
theorem Reps.in2 {K : PySem.W.Frag} {H : Hp} {d e : D} {vs : List V} (r : Reps K H [d, e] vs) : ∃ v w, vs = [v, w] ∧ Rep K H d v ∧ Rep K H e w := by
  cases r with
  | cons r t =>
    obtain ⟨w, rfl, r2⟩ := t.in1
    exact ⟨_, w, rfl, r, r2⟩
theorem b_len : CX' X (.builtin "len") rLen := CallR.of call_len fun vs H Q ⟨ds, M, P, r, A, h, m⟩ => by
  unfold rLen at h
  split at h
  · obtain ⟨v, rfl, r1⟩ := r.in1
    cases r1
    exact ⟨_, _, rfl, ⟨h.1, rfl⟩, m _ M _ H h.2 (Ext.refl H) A (.int _)⟩
  · obtain ⟨ys, hy, h⟩ := h
    obtain ⟨v, rfl, r1⟩ := r.in1
    obtain ⟨a, ws, rfl, hq, rs⟩ := r1.sq A hy
    refine ⟨_, ws.length, rfl, ?_, by rw [← rs.length]; exact m _ M _ H h (Ext.refl H) A (.int _)⟩
    rcases hq with hq | hq
    · exact .inl ⟨ws, hq, rfl⟩
    · exact .inr ⟨ws, hq, rfl⟩
  · exact h.elim
theorem b_abs : CX' X (.builtin "abs") rAbs := CallR.of call_abs fun vs H Q ⟨ds, M, P, r, A, h, m⟩ => by
  unfold rAbs at h
  split at h
  · obtain ⟨v, rfl, r1⟩ := r.in1
    cases r1
    exact ⟨_, rfl, m _ M _ H h (Ext.refl H) A (.int _)⟩
  · exact h.elim
theorem b_int : CX' X (.type "int") rToInt := CallR.of call_int1 fun vs H Q ⟨ds, M, P, r, A, h, m⟩ => by
  unfold rToInt at h
  split at h
  · obtain ⟨v, rfl, r1⟩ := r.in1
    cases r1
    exact .inl ⟨_, rfl, m _ M _ H h (Ext.refl H) A (.int _)⟩
  · obtain ⟨v, rfl, r1⟩ := r.in1
    cases r1
    exact .inr ⟨_, rfl, m _ M _ H h (Ext.refl H) A (.int _)⟩
  · exact h.elim
theorem b_max2 (hc : X.calm = true) : CX' X (.builtin "max") rMax2 := CallR.of (call_max2 hc) fun vs H Q ⟨ds, M, P, r, A, h, m⟩ => by
  unfold rMax2 at h
  split at h
  · obtain ⟨v, w, rfl, r1, r2⟩ := r.in2
    cases r1; cases r2
    exact ⟨_, _, rfl, m _ M _ H h (Ext.refl H) A (.int _)⟩
  · exact h.elim
theorem b_min2 (hc : X.calm = true) : CX' X (.builtin "min") rMin2 := CallR.of (call_min2 hc) fun vs H Q ⟨ds, M, P, r, A, h, m⟩ => by
  unfold rMin2 at h
  split at h
  · obtain ⟨v, w, rfl, r1, r2⟩ := r.in2
    cases r1; cases r2
    exact ⟨_, _, rfl, m _ M _ H h (Ext.refl H) A (.int _)⟩
  · exact h.elim
theorem b_str : CX' X (.type "str") rStr := CallR.of call_str_int fun vs H Q ⟨ds, M, P, r, A, h, m⟩ => by
  unfold rStr at h
  split at h
  · obtain ⟨v, rfl, r1⟩ := r.in1
    cases r1
    exact ⟨_, rfl, h.1, m _ M _ H h.2 (Ext.refl H) A (.str _)⟩
  · exact h.elim
theorem b_tuple : CX' X (.type "tuple") rToTup := CallR.of call_tuple_of fun vs H Q ⟨ds, M, P, r, A, h, m⟩ => by
  unfold rToTup at h
  split at h
  · obtain ⟨ys, hy, h⟩ := h
    obtain ⟨v, rfl, r1⟩ := r.in1
    obtain ⟨a, ws, rfl, hq, rs⟩ := r1.sq A hy
    refine ⟨a, ws, rfl, ?_⟩
    rcases hq with hq | hq
    · exact .inl ⟨hq, fun l hl => m _ M _ _ h (Ext.new hl) (A.more hl) (.tup (.inl (.inl upd_same)) (rs.ext (Ext.new hl)))⟩
    · exact .inr ⟨hq, m _ M _ H h (Ext.refl H) A (.tup hq rs)⟩
  · exact h.elim
theorem b_list : CX' X (.type "list") rToLst := CallR.of call_list_of fun vs H Q ⟨ds, M, P, r, A, h, m⟩ => by
  unfold rToLst at h
  split at h
  · obtain ⟨ys, hy, h⟩ := h
    obtain ⟨v, rfl, r1⟩ := r.in1
    obtain ⟨a, ws, rfl, hq, rs⟩ := r1.sq A hy
    exact ⟨a, ws, rfl, hq, fun l hl => m _ _ _ _ (h l (A.free hl)) (Ext.new hl) (A.new hl rs) (.ref l)⟩
  · exact h.elim
theorem b_all (hc : X.calm = true) : CX' X (.builtin "all") rAllD := CallR.of (cr_all hc) fun vs H Q ⟨ds, M, P, r, A, h, m⟩ => by
  unfold rAllD at h
  split at h
  · obtain ⟨ys, hy, h⟩ := h
    obtain ⟨v, rfl, r1⟩ := r.in1
    obtain ⟨a, ws, rfl, hq, rs⟩ := r1.ls A hy
    rw [rs.ofBls] at hq
    exact ⟨a, ys, rfl, hq, m _ M _ H h (Ext.refl H) A (.bl _)⟩
  · exact h.elim
theorem b_any (hc : X.calm = true) : CX' X (.builtin "any") rAnyD := CallR.of (cr_any hc) fun vs H Q ⟨ds, M, P, r, A, h, m⟩ => by
  unfold rAnyD at h
  split at h
  · obtain ⟨ys, hy, h⟩ := h
    obtain ⟨v, rfl, r1⟩ := r.in1
    obtain ⟨a, ws, rfl, hq, rs⟩ := r1.ls A hy
    rw [rs.ofBls] at hq
    exact ⟨a, ys, rfl, hq, m _ M _ H h (Ext.refl H) A (.bl _)⟩
  · exact h.elim
theorem CallR.or {f : Value} {r r' : List V → Hp → VK → Prop} (h : CallR X f r) (h' : CallR X f r') : CallR X f (fun vs H Q => r vs H Q ∨ r' vs H Q) := fun pins s σ H vs us Q I rx q => by
  rcases q with q | q
  · exact h pins s σ H vs us Q I rx q
  · exact h' pins s σ H vs us Q I rx q
theorem b_sum (hc : X.calm = true) : CX' X (.builtin "sum") rSumD := CallR.of (CallR.or (cr_sum hc) (cr_sumT hc)) fun vs H Q ⟨ds, M, P, r, A, h, m⟩ => by
  unfold rSumD at h
  split at h
  · obtain ⟨ys, hy, h⟩ := h
    obtain ⟨v, rfl, r1⟩ := r.in1
    obtain ⟨a, ws, rfl, hq, rs⟩ := r1.sq A hy
    rw [rs.ofInts] at hq
    rcases hq with hq | hq
    · exact .inl ⟨a, ys, rfl, hq, m _ M _ H h (Ext.refl H) A (.int _)⟩
    · exact .inr ⟨a, ys, rfl, hq, m _ M _ H h (Ext.refl H) A (.int _)⟩
  · exact h.elim
theorem b_max (hc : X.calm = true) : CX' X (.builtin "max") rMaxD := CallR.of (cr_max hc) fun vs H Q ⟨ds, M, P, r, A, h, m⟩ => by
  unfold rMaxD at h
  split at h
  · obtain ⟨ys, hy, h0, h⟩ := h
    obtain ⟨v, rfl, r1⟩ := r.in1
    obtain ⟨a, ws, rfl, hq, rs⟩ := r1.ls A hy
    rw [rs.ofInts] at hq
    exact ⟨a, ys, rfl, hq, h0, fun x h1 h2 => m _ M _ H (h x h1 h2) (Ext.refl H) A (.int _)⟩
  · exact h.elim
theorem b_min (hc : X.calm = true) : CX' X (.builtin "min") rMinD := CallR.of (cr_min hc) fun vs H Q ⟨ds, M, P, r, A, h, m⟩ => by
  unfold rMinD at h
  split at h
  · obtain ⟨ys, hy, h0, h⟩ := h
    obtain ⟨v, rfl, r1⟩ := r.in1
    obtain ⟨a, ws, rfl, hq, rs⟩ := r1.ls A hy
    rw [rs.ofInts] at hq
    exact ⟨a, ys, rfl, hq, h0, fun x h1 h2 => m _ M _ H (h x h1 h2) (Ext.refl H) A (.int _)⟩
  · exact h.elim
theorem b_sortI : CX' X (.builtin "sorted") rSortI' := CallR.of cr_sortedI fun vs H Q ⟨ds, M, P, r, A, h, m⟩ => by
  unfold rSortI' at h
  split at h
  · obtain ⟨ys, hy, h⟩ := h
    obtain ⟨v, rfl, r1⟩ := r.in1
    obtain ⟨a, ws, rfl, hq, rs⟩ := r1.ls A hy
    rw [rs.ofInts] at hq
    exact ⟨a, ys, rfl, hq, fun ns' p h1 h2 hp => m _ _ _ _ (h ns' p h1 h2 (A.free hp)) (Ext.new hp) (A.new hp Reps.ints) (.ref p)⟩
  · exact h.elim
end

/-! ### isinstance with a built-in class -/
def tyOf (M : Mem) : D → Option String
  | .non => some "NoneType"
  | .bl _ => some "bool"
  | .int _ => some "int"
  | .str _ => some "str"
  | .tup _ => some "tuple"
  | .lst _ => some "list"
  | .scr _ => none
  | .ref a => match M a with
    | some (.lst _) => some "list"
    | none => none
def isTy : String → String → Option Bool := kitB
def dIsi (T : String) (ta : DE) : DE := fun ρ M P => ta ρ M fun x M1 => ∃ t b, tyOf M1 x = some t ∧ kitB t T = some b ∧ P (.bl b) M1
section
variable {X : Cx} {a b : Expr} {ta : DE} {pos p : Pos} {x : Str}
theorem Rep.tyX {K : PySem.W.Frag} {H : Hp} {M : Mem} {d : D} {v : V} {t : String} (r : Rep K H d v) (A : Abs K H M) (h : tyOf M d = some t) : TyX K H v (.type t) := by
  cases d with
  | non => cases r; cases h; exact .base .non
  | bl => cases r; cases h; exact .base (.bl _)
  | int => cases r; cases h; exact .base (.int _)
  | str => cases r; cases h; exact .base (.str _)
  | tup =>
    cases h
    obtain ⟨a, vs, rfl, hq, _⟩ := r.tp
    rcases hq with (hq | ⟨o, hq⟩) | ⟨o, its, n, hk, hc, _⟩
    · exact .base (.tup hq)
    · exact .fTuple hq
    · exact .kTuple hk hc
  | lst =>
    cases r with
    | lst hq rs => cases h; exact .base (.frz hq)
  | scr => cases h
  | ref a =>
    cases r
    unfold tyOf at h
    cases hM : M a with
    | none => simp only [hM] at h; cases h
    | some o =>
      cases o with
      | lst xs =>
        simp only [hM] at h
        cases h
        obtain ⟨vs, hH, _⟩ := A.at hM
        exact .base (.lst hH)
theorem ex_isi {T : String} (hg : Gl X "isinstance") (hm : X.mg "isinstance" = none) (ha : EX X a ta) (hb : PE X b (tC (.ty T)))
    (h : ∀ {r : List V → Hp → VK → Prop} {t : TA}, CallR X (.builtin "isinstance") r → PA X [a, b] t → PE X (.Call (.Name "isinstance" p) [a, b] [] pos) (tCB r t))
    (hs : starEach [a, b] X.env = (false, eval a X.env) :: starEach [b] X.env := by rfl) (hs2 : starEach [b] X.env = (false, eval b X.env) :: starEach [] X.env := by rfl) : EX X (.Call (.Name "isinstance" p) [a, b] [] pos) (dIsi T ta) :=
  PE.of (h call_isi (pa_cons ha (pa_cons hb pa_nil hs2) hs)) fun σ H Q ⟨ρ, M, P, S, A, t, m⟩ => ⟨ρ, M, _, S, A, t, fun d M1 v H1 t1 e1 a1 r1 => by
    obtain ⟨t, k, h1, h2, h3⟩ := t1
    exact ⟨v, .ty T, .type t, .type T, k, rfl, .ty T, r1.tyX a1 h1, kit_ty h2, m _ M1 _ H1 h3 e1 a1 (.bl k)⟩⟩
end

/-! ### methods of lists -/
def withL (M : Mem) (a : Addr) (k : List D → Prop) : Prop := ∃ xs, M a = some (.lst xs) ∧ k xs
theorem withL_set {M : Mem} {a : Addr} {xs : List D} {k : List D → Prop} (h : k xs) : withL (mset M a (.lst xs)) a k := ⟨xs, mset_eq _ _ _, h⟩
def dAppend (to te : DE) : DE := fun ρ M P => to ρ M fun o M1 => match o with
  | .ref a => withL M1 a fun _ => te ρ M1 fun d M2 => withL M2 a fun xs => xs.length < sizeLine ∧ P .non (mset M2 a (.lst (xs ++ [d])))
  | _ => False
def dExtend (to te : DE) : DE := fun ρ M P => to ρ M fun o M1 => match o with
  | .ref a => withL M1 a fun _ => te ρ M1 fun d M2 => withL M2 a fun xs => match d with
    | .lst zs => xs.length + zs.length ≤ sizeLine ∧ P .non (mset M2 a (.lst (xs ++ zs)))
    | .ref b => withL M2 b fun zs => xs.length + zs.length ≤ sizeLine ∧ P .non (mset M2 a (.lst (xs ++ zs)))
    | _ => False
  | _ => False
section
variable {X : Cx} {o e : Expr} {to te : DE} {apos cpos : Pos}
theorem ex_append (h : PE X (.Call (.Attribute o "append" apos) [e] [] cpos) (tBM X.K "list" rAppend (LE X.K to) (LA X.K (dCons te dNil)))) : EX X (.Call (.Attribute o "append" apos) [e] [] cpos) (dAppend to te) :=
  PE.of h fun σ H Q ⟨ρ, M, P, S, A, t, m⟩ => ⟨ρ, M, _, S, A, t, fun d M1 v H1 t1 e1 a1 r1 => by
    cases d with
    | ref a =>
      cases r1
      obtain ⟨xs0, hM, t1⟩ := t1
      obtain ⟨vs0, hH, _⟩ := a1.at hM
      refine ⟨.inl ⟨rfl, vs0, .inl (.inl hH)⟩, ρ, M1, fun ds M2 => ∃ d, ds = [d] ∧ withL M2 a fun xs => xs.length < sizeLine ∧ P .non (mset M2 a (.lst (xs ++ [d]))), S.ext e1, a1, ?_, fun ds M2 vs H2 t2 e2 a2 r2 => ?_⟩
      · have q : te ρ M1 fun d M2 => (fun ds M2 => ∃ d, ds = [d] ∧ withL M2 a fun xs => xs.length < sizeLine ∧ P .non (mset M2 a (.lst (xs ++ [d])))) (d :: []) M2 := by
          have : (fun d M2 => ∃ d', [d] = [d'] ∧ withL M2 a fun xs => xs.length < sizeLine ∧ P .non (mset M2 a (.lst (xs ++ [d'])))) = fun d M2 => withL M2 a fun xs => xs.length < sizeLine ∧ P .non (mset M2 a (.lst (xs ++ [d]))) := by
            funext d M2
            exact propext ⟨fun ⟨d', e, h⟩ => by cases e; exact h, fun h => ⟨d, rfl, h⟩⟩
          show te ρ M1 (fun d M2 => ∃ d', [d] = [d'] ∧ withL M2 a fun xs => xs.length < sizeLine ∧ P .non (mset M2 a (.lst (xs ++ [d']))))
          rw [this]
          exact t1
        exact q
      · obtain ⟨d, rfl, xs, hM2, hz, q⟩ := t2
        obtain ⟨w, rfl, rd⟩ := r2.in1
        obtain ⟨vs, hH2, rs⟩ := a2.at hM2
        exact ⟨a, vs, w, rfl, rfl, hH2, by rw [← rs.length]; exact hz, m _ _ _ _ q (e1.trans (e2.trans (Ext.lst hH2))) (a2.set hH2 (rs.append (.one rd))) .non⟩
    | _ => exact t1.elim⟩
theorem ex_extend (h : PE X (.Call (.Attribute o "extend" apos) [e] [] cpos) (tBM X.K "list" rExtendR (LE X.K to) (LA X.K (dCons te dNil)))) : EX X (.Call (.Attribute o "extend" apos) [e] [] cpos) (dExtend to te) :=
  PE.of h fun σ H Q ⟨ρ, M, P, S, A, t, m⟩ => ⟨ρ, M, _, S, A, t, fun d M1 v H1 t1 e1 a1 r1 => by
    cases d with
    | ref a =>
      cases r1
      obtain ⟨xs0, hM, t1⟩ := t1
      obtain ⟨vs0, hH, _⟩ := a1.at hM
      let G : D → Mem → Prop := fun d M2 => withL M2 a fun xs => match d with
        | .lst zs => xs.length + zs.length ≤ sizeLine ∧ P .non (mset M2 a (.lst (xs ++ zs)))
        | .ref b => withL M2 b fun zs => xs.length + zs.length ≤ sizeLine ∧ P .non (mset M2 a (.lst (xs ++ zs)))
        | _ => False
      have t1 : te ρ M1 G := t1
      refine ⟨.inl ⟨rfl, vs0, .inl (.inl hH)⟩, ρ, M1, fun ds M2 => ∃ d, ds = [d] ∧ G d M2, S.ext e1, a1, ?_, fun ds M2 vs H2 t2 e2 a2 r2 => ?_⟩
      · have : (fun d M2 => ∃ d', [d] = [d'] ∧ G d' M2) = G := by
          funext d M2
          exact propext ⟨fun ⟨d', e, h⟩ => by cases e; exact h, fun h => ⟨d, rfl, h⟩⟩
        show te ρ M1 (fun d M2 => ∃ d', [d] = [d'] ∧ G d' M2)
        rw [this]
        exact t1
      · obtain ⟨d, rfl, xs, hM2, q⟩ := t2
        obtain ⟨w, rfl, rd⟩ := r2.in1
        obtain ⟨vs, hH2, rs⟩ := a2.at hM2
        have fin : ∀ zs, lsOf M2 d = some zs → (∀ ns, d ≠ .scr ns) → xs.length + zs.length ≤ sizeLine → P .non (mset M2 a (.lst (xs ++ zs))) → rExtendR (.ref a) [w] H2 Q := fun zs hz hn hl q => by
          obtain ⟨b, ws, rfl, hb, rz⟩ := rd.lsR a2 hn hz
          exact ⟨a, b, vs, ws, rfl, rfl, hH2, hb, by rw [← rs.length, ← rz.length]; exact hl, m _ _ _ _ q (e1.trans (e2.trans (Ext.lst hH2))) (a2.set hH2 (rs.append rz)) .non⟩
        cases d with
        | lst zs => exact fin zs rfl (fun _ z => nomatch z) q.1 q.2
        | ref b =>
          obtain ⟨zs, hb, q⟩ := q
          exact fin zs (by simp only [lsOf, hb]) (fun _ z => nomatch z) q.1 q.2
        | _ => exact q.elim
    | _ => exact t1.elim⟩
end
end DL
/-! What a loop walks, over plain data: lists and tuples, enumerate and zip of both in any mix, ranges, texts. -/
namespace DL
open PySem PySem.Spec PyProof.Rows L2

inductive SK where
  | l | t
def sqK (k : SK) (K : PySem.W.Frag) (H : Hp) (a : Addr) (xs : List V) : Prop := match k with
  | .l => SqL K H a xs
  | .t => SqT K H a xs
def itK (k : SK) (h : Heap) (it a : Addr) (i : Nat) : Prop := match k with
  | .l => h.IsListIter it a i
  | .t => h.IsTupleIter it a i
def isK (k : SK) (h : Heap) (a : Addr) (items : Array Value) : Prop := match k with
  | .l => h.IsList a items
  | .t => h.IsTuple a items
def begO (k : SK) (a : Addr) : Obj := match k with
  | .l => { cls := .type "list_iterator", data := .fields #[.ref a, .int 0 0] }
  | .t => { cls := .type "tuple_iterator", data := .fields #[.ref a, .int 0 0] }
section
variable {X : Cx} {pins : List (Addr × Obj)} {σ : L2.St} {H : Hp} {s : Shared} {a : Addr} {xs ys : List V} {k : SK}
theorem seqAt (I : L2.Inv X pins σ H s) (h : sqK k X.K H a xs) : ∃ its : List Value, Vals xs its ∧ isK k s.heap a its.toArray ∧ a < s.heap.objs.size := by
  cases k with
  | l => obtain ⟨its, rv, p, _⟩ := I.list h; exact ⟨its, rv, p.isList, p.lt⟩
  | t => obtain ⟨its, rv, p, _⟩ := I.tuple h; exact ⟨its, rv, p, p.lt⟩
theorem seqInj (I : L2.Inv X pins σ H s) (h : sqK k X.K H a xs) (h' : sqK k X.K H a ys) : xs = ys := by
  cases k with
  | l => exact I.list_inj h h'
  | t => exact I.tuple_inj h h'
theorem drawsK (k : SK) {prog : Program} {w : World} {A : Around} (hh : A.handled = none) (it a : Addr) (hne : a ≠ it) (items : Array Value) :
    Draws prog w A it [it, a] items.size (fun i v => items[i]? = some v) (fun i h => itK k h it a i ∧ isK k h a items) := by
  cases k with
  | l => exact Draws.list hh it a hne items
  | t => exact Draws.tuple hh it a hne items
theorem beginsK (k : SK) (a : Addr) (items : Array Value) : Begins (.ref a) (begO k a) fun h => isK k h a items := by
  cases k with
  | l => exact begins_list a items
  | t => exact begins_tuple a items
theorem itK_obj {h : Heap} {it : Addr} {i : Nat} (st : itK k h it a i) : ∃ o, h.get? it = some o ∧ ∀ v, o.data ≠ .cell v := by
  cases k with
  | l => obtain ⟨o, e, c, d⟩ := st; exact ⟨o, e, fun v z => by rw [d] at z; cases z⟩
  | t => obtain ⟨o, e, c, d⟩ := st; exact ⟨o, e, fun v z => by rw [d] at z; cases z⟩
theorem itK_at {h h' : Heap} {it : Addr} {i : Nat} (st : itK k h it a i) (e : ∀ o, h.get? it = some o → h'.get? it = some o) : itK k h' it a i := by
  cases k with
  | l => exact Heap.IsListIter.at st e
  | t => exact Heap.IsTupleIter.at st e
theorem itK_new {h : Heap} {it : Addr} (e : h.get? it = some (begO k a)) : itK k h it a 0 := by
  cases k with
  | l => exact ⟨_, e, rfl, rfl⟩
  | t => exact ⟨_, e, rfl, rfl⟩
end

/-! ### enumerate -/
set_option maxHeartbeats 1000000 in
theorem enum_new1 {v : Value} {o : Obj} {G : Heap → Prop} (B : Begins v o G) :
    Meets (Builtin.«enumerate.__new__» ⟨[.type "enumerate", v], []⟩) (fun _ R s => G s.heap ∧
      R (.ok (.ret (.ref (s.heap.push o).objs.size))) { s with heap := (s.heap.push o).push { cls := .type "enumerate", data := .fields #[.none, .bool false, .ref s.heap.objs.size, rawInt 0, .none, .none] } }) :=
  .of_wp fun prog w A R s h => by
    obtain ⟨hp, g, d, tk, os⟩ := s
    obtain ⟨h1, h⟩ := h
    have hsub := sub_enumerate
    have q1 : ∀ {A' : Around} {E : Value → Shared → Prop} {Q : Value → Shared → Prop}, Q (.ref hp.objs.size) ⟨hp.push o, g, d, tk, os⟩ → wpAny (model prog w) A' (pyIter v) Q E ⟨hp, g, d, tk, os⟩ :=
      fun q => B.iter prog w _ _ ⟨hp, g, d, tk, os⟩ _ h1 q
    wp_walk using q1
    refine wpAny_stack_any fun st => wpAny_pure ?_
    split
    · rename_i c _ _ _ _ _
      cases (c == Value.type "enumerate") <;> (wp_walk using q1; exact ⟨_, rfl, h⟩)
    · wp_walk using q1
      exact ⟨_, rfl, h⟩
section
variable {prog : Program} {w : World} {A : Around} {E : Value → Shared → Prop} {s : Shared}
theorem enum_call {v : Value} {o : Obj} {G : Heap → Prop} {Q : Value → Shared → Prop} (B : Begins v o G) (h1 : G s.heap)
    (h : ∀ h', IsEnum h' (s.heap.objs.size + 1) s.heap.objs.size 0 .none → h'.get? s.heap.objs.size = some o → (∀ b o, s.heap.get? b = some o → h'.get? b = some o) → Q (.ref (s.heap.objs.size + 1)) { s with heap := h' }) :
    wpAny (model prog w) A (call (.type "enumerate") [v]) Q E s := by
  refine callType_new PySem.F.called_enumerate (by decide) (PySem.F.typeCall_enumerate_1 _) (PySem.F.newCall_enumerate_1 _) (fun obj => PySem.F.args_object_init_2 obj _) PySem.F.entry_enumerate_new (enum_new1 B) ⟨h1, ?_⟩
  have hz : (s.heap.push o).objs.size = s.heap.objs.size + 1 := Heap.size_push ..
  show _ ∧ _
  rw [hz]
  have he : IsEnum ((s.heap.push o).push { cls := .type "enumerate", data := .fields #[.none, .bool false, .ref s.heap.objs.size, rawInt 0, .none, .none] }) (s.heap.objs.size + 1) s.heap.objs.size 0 .none := by
    have := Heap.get?_push_size (s.heap.push o) (o := { cls := .type "enumerate", data := .fields #[.none, .bool false, .ref s.heap.objs.size, rawInt 0, .none, .none] }) rfl
    rw [hz] at this
    exact this
  exact ⟨⟨_, he, rfl⟩, h _ he (Heap.get?_push_of_some _ (Heap.get?_push_size _ B.free)) fun b o x => Heap.get?_push_of_some _ (Heap.get?_push_of_some _ x)⟩
end
def IteK (k : SK) (K : PySem.W.Frag) (a : Addr) : It :=
  ⟨fun i H => ∃ (xs : List V) (x : V), sqK k K H a xs ∧ xs[i]? = some x,
    fun i H v H' => ∃ T x, v = .ref T ∧ H T = none ∧ H' = upd H T (.tup [.int (i : Nat), x]) ∧ ∀ xs, sqK k K H a xs → xs[i]? = some x,
    fun i H => ∃ xs : List V, sqK k K H a xs ∧ xs.length = i⟩
theorem turn_enumK {P : Program} {w : World} {K : PySem.W.Frag} {elts : List Expr} {kk : Nat} {tpos : Pos} (k : SK) (a e it : Addr) (hei : e ≠ it) (hea : e ≠ a) (hai : a ≠ it) :
    Turn P w K (.Tuple elts kk tpos) (IteK k K a) [e, it] e (fun i h => (∃ old, IsEnum h e it ((i : Nat) : Int) old) ∧ itK k h it a i) where
  mem := by simp
  obj := fun i h st b hb => by
    obtain ⟨⟨old, he⟩, hi⟩ := st
    have e' : b = e ∨ b = it := by simpa using hb
    rcases e' with z | z
    · rw [z]; exact ⟨_, he, fun v q => nomatch q⟩
    · rw [z]; exact itK_obj hi
  keep := fun i h h' st q => let ⟨⟨old, he⟩, hi⟩ := st; ⟨⟨old, q e (by simp) _ he⟩, itK_at hi fun o z => q it (by simp) o z⟩
  item := by
    intro X hP hw hK hc i pins s σ H E I hf st hg
    subst hP hw hK
    obtain ⟨⟨old, he⟩, hit⟩ := st
    obtain ⟨xs, x, hq, hx⟩ := hg
    obtain ⟨its, rv, p, _⟩ := seqAt I hq
    obtain ⟨u, hu, ru⟩ := rv.get hx
    have hlt : i < its.toArray.size := by
      rw [List.size_toArray]
      exact (List.getElem?_eq_some_iff.mp hu).1
    have hel : e < s.heap.objs.size := Heap.lt_size he
    have hil : it < s.heap.objs.size := let ⟨_, q, _⟩ := itK_obj hit; Heap.lt_size q
    refine wpAny_pyNext_enum_itemC (drawsK k (A := X.A.in1) (I.ok.hd hc) it a hai its.toArray) he ⟨hit, p⟩ hlt hei (by simp [hei, hea]) fun u' h' tk hP ho hst hT hsz hk => ?_
    have eu : u' = u := by
      have z : its.toArray[i]? = some u := by simpa using hu
      rw [z] at hP
      exact (Option.some.inj hP).symm
    subst eu
    refine ⟨_, rfl, wpAny_letOwnedTupleGo_enum (s := { s with heap := h', toks := tk + 1 }) ho fun h'' he' sb => ?_⟩
    have hT2 : h''.get? s.heap.objs.size = some { cls := .type "tuple", data := .seq #[.int i tk, u'] } := (sb.2 _ (Nat.ne_of_gt hel)).trans hT
    have new : ObjOk X.prog X.w (upd H s.heap.objs.size (.tup [.int (i : Nat), x])) h'' s.heap.objs.size (.tup [.int (i : Nat), x]) :=
      ⟨by show 2 ≤ sizeLine; decide, [.int i tk, u'], .cons ⟨_, rfl⟩ (.cons ru .nil), ⟨_, hT2, rfl, _, rfl⟩⟩
    have I1 : L2.Inv X pins σ (upd H s.heap.objs.size (.tup [.int (i : Nat), x])) { s with heap := h'', toks := tk + 1 } :=
      I.turnedNew (ch := [e, it]) (fun b ob hb q => (sb.2 b (fun z => hb (by simp [z]))).trans (hk b ob (fun z => hb (by simp [z])) (fun z => hb (by simp [z])) q)) hf (Nat.le_refl _) new
    refine ⟨.ref s.heap.objs.size, _, I1, rfl, ⟨_, x, rfl, I.hok.fresh (Nat.le_refl _), rfl, fun ys hy => by rw [seqInj I hy hq]; exact hx⟩, ⟨⟨u', ?_⟩, itK_at hst.1 fun o q => (sb.2 it (Ne.symm hei)).trans q⟩, fun b hb => ?_⟩
    · rw [show ((i + 1 : Nat) : Int) = (i : Int) + 1 by omega]
      exact he'
    · have hb' : b < s.heap.objs.size := by
        have e' : b = e ∨ b = it := by simpa using hb
        rcases e' with z | z
        · rw [z]; exact hel
        · rw [z]; exact hil
      rw [upd_ne (Nat.ne_of_lt hb')]
      exact (hf b hb).1
  done := by
    intro X hP hw hK hc i pins s σ H E I hf st hg
    subst hP hw hK
    obtain ⟨⟨old, he⟩, hit⟩ := st
    obtain ⟨xs, hq, hx⟩ := hg
    obtain ⟨its, rv, p, _⟩ := seqAt I hq
    obtain ⟨f0, f1, f2, f3, f4, f5⟩ := hf it (by simp)
    have hn : i = its.toArray.size := by rw [List.size_toArray, ← rv.length]; exact hx.symm
    subst hn
    exact wpAny_pyNext_enum_endD (drawsK k (A := X.A.in1) (I.ok.hd hc) it a hai its.toArray) he ⟨hit, p⟩ fun h' eb => ⟨rfl, I.turned (t' := s.toks) (fun b o hb q => eb b o hb q) f0 f1 f3 f4 f5⟩
  self := fun A i s Q E st h => let ⟨⟨_, he⟩, _⟩ := st; wpAny_pyIter_enum he h

/-! ### zip of two -/
def ItzK (k1 k2 : SK) (K : PySem.W.Frag) (a b : Addr) : It :=
  ⟨fun i H => ∃ (xs ys : List V) (x y : V), sqK k1 K H a xs ∧ sqK k2 K H b ys ∧ xs[i]? = some x ∧ ys[i]? = some y,
    fun i H v H' => ∃ T x y, v = .ref T ∧ H T = none ∧ H' = upd H T (.tup [x, y]) ∧ (∀ xs, sqK k1 K H a xs → xs[i]? = some x) ∧ ∀ ys, sqK k2 K H b ys → ys[i]? = some y,
    fun i H => ∃ xs ys : List V, sqK k1 K H a xs ∧ sqK k2 K H b ys ∧ i = min xs.length ys.length⟩
theorem turn_zipK {P : Program} {w : World} {K : PySem.W.Frag} {elts : List Expr} {kk : Nat} {tpos : Pos} (k1 k2 : SK) {a b z TI TO i1 i2 : Addr} (S : ZipSep2 z TI TO i1 i2 [i1, a] [i2, b]) (h1a : a ≠ i1) (h2b : b ≠ i2) :
    Turn P w K (.Tuple elts kk tpos) (ItzK k1 k2 K a b) [z, TI, TO, i1, i2] z (fun i h => IsZip h z TI TO .none ∧ IsTupOf2 h TI (.ref i1) (.ref i2) ∧ (∃ x y, IsTupOf2 h TO x y) ∧ itK k1 h i1 a i ∧ itK k2 h i2 b i) where
  mem := by simp
  obj := fun i h st c hc => by
    obtain ⟨hz, hTI, ⟨x, y, hTO⟩, h1, h2⟩ := st
    have e' : c = z ∨ c = TI ∨ c = TO ∨ c = i1 ∨ c = i2 := by simpa using hc
    rcases e' with q | q | q | q | q
    · rw [q]; exact ⟨_, hz, fun v q => nomatch q⟩
    · rw [q]; exact ⟨_, hTI, fun v q => nomatch q⟩
    · rw [q]; exact ⟨_, hTO, fun v q => nomatch q⟩
    · rw [q]; exact itK_obj h1
    · rw [q]; exact itK_obj h2
  keep := fun i h h' st k => by
    obtain ⟨hz, hTI, ⟨x, y, hTO⟩, h1, h2⟩ := st
    exact ⟨k z (by simp) _ hz, k TI (by simp) _ hTI, ⟨x, y, k TO (by simp) _ hTO⟩, itK_at h1 fun o q => k i1 (by simp) o q, itK_at h2 fun o q => k i2 (by simp) o q⟩
  item := by
    intro X hP hw hK hc i pins s σ H E I hf st hg
    subst hP hw hK
    obtain ⟨hz, hTI, ⟨x0, y0, hTO⟩, h1, h2⟩ := st
    obtain ⟨xs, ys, x, y, hqx, hqy, hx, hy⟩ := hg
    obtain ⟨its, rv, p, _⟩ := seqAt I hqx
    obtain ⟨its2, rv2, p2, _⟩ := seqAt I hqy
    obtain ⟨u, hu, ru⟩ := rv.get hx
    obtain ⟨u2, hu2, ru2⟩ := rv2.get hy
    have hzl : z < s.heap.objs.size := Heap.lt_size hz
    have hl1 : i < its.toArray.size := by rw [List.size_toArray]; exact (List.getElem?_eq_some_iff.mp hu).1
    have hl2 : i < its2.toArray.size := by rw [List.size_toArray]; exact (List.getElem?_eq_some_iff.mp hu2).1
    have hh : X.A.in1.handled = none := I.ok.hd hc
    refine wpAny_pyNext_zipD2_item S (drawsK k1 (A := X.A.in1) hh i1 a h1a its.toArray) (drawsK k2 (A := X.A.in1) hh i2 b h2b its2.toArray) hz hTI hTO ⟨h1, p⟩ ⟨h2, p2⟩ hl1 hl2 fun u' u2' h' tk hP1 hP2 z' TO' h1' h2' hT hsz hk => ?_
    have eu : u' = u := by
      have q : its.toArray[i]? = some u := by simpa using hu
      rw [q] at hP1
      exact (Option.some.inj hP1).symm
    have eu2 : u2' = u2 := by
      have q : its2.toArray[i]? = some u2 := by simpa using hu2
      rw [q] at hP2
      exact (Option.some.inj hP2).symm
    subst eu eu2
    refine ⟨_, rfl, wpAny_letOwnedTupleGo_zip (s := { s with heap := h', toks := tk }) z' fun h'' z'' sb => ?_⟩
    have hT2 : h''.get? s.heap.objs.size = some { cls := .type "tuple", data := .seq #[u', u2'] } := (sb.2 _ (Nat.ne_of_gt hzl)).trans hT
    have new : ObjOk X.prog X.w (upd H s.heap.objs.size (.tup [x, y])) h'' s.heap.objs.size (.tup [x, y]) :=
      ⟨by show 2 ≤ sizeLine; decide, [u', u2'], .cons ru (.cons ru2 .nil), ⟨_, hT2, rfl, _, rfl⟩⟩
    have I1 : L2.Inv X pins σ (upd H s.heap.objs.size (.tup [x, y])) { s with heap := h'', toks := tk } :=
      I.turnedNew (t' := tk) (ch := [z, TI, TO, i1, i2]) (fun c o hb q => (sb.2 c (fun q' => hb (by simp [q']))).trans (hk c o (fun q' => hb (by simp [q'])) (fun q' => hb (by simp [q'])) (fun q' => hb (by simp [q'])) (fun q' => hb (by simp [q'])) q)) hf (Nat.le_refl _) new
    have TIi1 := S.TIi1
    refine ⟨.ref s.heap.objs.size, _, I1, rfl, ⟨_, x, y, rfl, I.hok.fresh (Nat.le_refl _), rfl, fun l hl => by rw [seqInj I hl hqx]; exact hx, fun l hl => by rw [seqInj I hl hqy]; exact hy⟩, ⟨z'', ?_, ⟨u', u2', ?_⟩, ?_, ?_⟩, fun c hcm => ?_⟩
    · exact (sb.2 _ S.TIz).trans (hk _ _ S.TIz S.TITO S.TIi1 S.TIi2 hTI)
    · exact (sb.2 _ S.TOz).trans TO'
    · exact itK_at h1'.1 fun o q => (sb.2 _ (Ne.symm S.zi1)).trans q
    · exact itK_at h2'.1 fun o q => (sb.2 _ (Ne.symm S.zi2)).trans q
    · have hlt : c < s.heap.objs.size := by
        have e' : c = z ∨ c = TI ∨ c = TO ∨ c = i1 ∨ c = i2 := by simpa using hcm
        rcases e' with q | q | q | q | q
        · rw [q]; exact hzl
        · rw [q]; exact Heap.lt_size hTI
        · rw [q]; exact Heap.lt_size hTO
        · rw [q]; obtain ⟨_, e1, _⟩ := itK_obj h1; exact Heap.lt_size e1
        · rw [q]; obtain ⟨_, e2, _⟩ := itK_obj h2; exact Heap.lt_size e2
      rw [upd_ne (Nat.ne_of_lt hlt)]
      exact (hf c hcm).1
  done := by
    intro X hP hw hK hc i pins s σ H E I hf st hg
    subst hP hw hK
    obtain ⟨hz, hTI, ⟨x0, y0, hTO⟩, h1, h2⟩ := st
    obtain ⟨xs, ys, hqx, hqy, hend⟩ := hg
    obtain ⟨its, rv, p, _⟩ := seqAt I hqx
    obtain ⟨its2, rv2, p2, _⟩ := seqAt I hqy
    have l1 := rv.length
    have l2 := rv2.length
    have hh : X.A.in1.handled = none := I.ok.hd hc
    have s1 : its.toArray.size = its.length := List.size_toArray
    have s2 : its2.toArray.size = its2.length := List.size_toArray
    exact wpAny_pyNext_zipD2_end S (drawsK k1 (A := X.A.in1) hh i1 a h1a its.toArray) (drawsK k2 (A := X.A.in1) hh i2 b h2b its2.toArray) hz hTI hTO ⟨h1, p⟩ ⟨h2, p2⟩ (by omega) (by omega) (by omega) fun h' tk hk => ⟨rfl, I.turnedL (t' := tk) (ch := [z, TI, TO, i1, i2]) (fun c o hb q =>
      hk c o (fun q' => hb (by simp [q'])) (fun q' => hb (by simp [q'])) (fun q' => hb (by simp [q'])) (fun q' => hb (by simp [q'])) q) hf⟩
  self := fun A i s Q E st h => wpAny_pyIter_zip st.1 h

/-! ### making them -/
section
variable {X : Cx} {tg : Expr}
theorem pi_seq {e : Expr} {te : TE} (he : PE X e te) : PI X tg e (fun σ H R => te σ H fun v H1 => (∃ a xs, v = .ref a ∧ SqL X.K H1 a xs ∧ R (Itl X.K a) H1) ∨ (∃ a xs, v = .ref a ∧ SqT X.K H1 a xs ∧ R (Itt X.K a) H1) ∨ ∃ x, v = .str x ∧ R (Its x) H1) := by
  refine ⟨fun pins s σ H R I h => ?_⟩
  refine thn (he.run pins s σ H _ I h) fun v s1 ⟨x, H1, I1, r1, q1⟩ => ?_
  rcases q1 with ⟨a, xs, ex, hq, q⟩ | ⟨a, xs, ex, hq, q⟩ | ⟨x, ex, q⟩
  · subst ex
    cases r1
    obtain ⟨its, rv, p, _⟩ := I1.list hq
    exact wpAny_pyIter_list p.isList (pi_one (tk := s1.toks) I1 _ (turn_list a _) ⟨_, Heap.get?_push_size _ rfl, rfl, rfl⟩ q)
  · subst ex
    cases r1
    obtain ⟨its, rv, p, _⟩ := I1.tuple hq
    exact wpAny_pyIter_tuple (show s1.heap.IsTuple a its.toArray from p) (pi_one (tk := s1.toks) I1 _ (turn_tuple a _) ⟨_, Heap.get?_push_size _ rfl, rfl, rfl⟩ q)
  · subst ex
    obtain ⟨t, rfl⟩ := r1
    cases ha : x.cps.all (· < 128)
    · exact wpAny_pyIter_wide ha (pi_one (tk := s1.toks) I1 _ (turn_str _ x t "str_iterator" (.inr rfl)) ⟨_, Heap.get?_push_size _ rfl, rfl, rfl⟩ q)
    · exact wpAny_pyIter_ascii ha (pi_one (tk := s1.toks) I1 _ (turn_str _ x t "str_ascii_iterator" (.inl rfl)) ⟨_, Heap.get?_push_size _ rfl, rfl, rfl⟩ q)
theorem pi_enumK {e : Expr} {ta : TA} {p pos tpos : Pos} {elts : List Expr} {kk : Nat} (hg : Gl X "enumerate") (hm : X.mg "enumerate" = none) (ha : PA X [e] ta) (hs : starEach [e] X.env = [(false, eval e X.env)] := by rfl) :
    PI X (.Tuple elts kk tpos) (.Call (.Name "enumerate" p) [e] [] pos) (fun σ H R => ta σ H fun vs H1 => ∃ k a xs, vs = [.ref a] ∧ sqK k X.K H1 a xs ∧ R (IteK k X.K a) H1) := by
  refine ⟨fun pins s σ H R I h => ?_⟩
  refine Call_ (ld_blt I hg hm boot_enumerate (PyProof.Rows.callWith_type1 (thn (ha.run pos pins s σ H _ I h) fun us s1 ⟨vs, H1, I1, r1, q1⟩ => ?_) hs rfl))
  obtain ⟨k, a, xs, ex, hq, q⟩ := q1
  subst ex
  rw [Vals.ref1 r1]
  obtain ⟨its, rv, p', hlt⟩ := seqAt I1 hq
  refine enum_call (beginsK k a its.toArray) p' fun h' he hit hk => wpAny_pyIter_enum he ?_
  have I2 : L2.Inv X pins σ H1 { s1 with heap := h' } := I1.kept (t' := s1.toks) hk
  refine ⟨s1.heap.objs.size + 1, [s1.heap.objs.size + 1, s1.heap.objs.size], _, _, H1, rfl, I2, turn_enumK k a (s1.heap.objs.size + 1) s1.heap.objs.size (Nat.succ_ne_self _) (fun z => by rw [← z] at hlt; exact absurd hlt (Nat.not_lt.mpr (Nat.le_succ _))) (Nat.ne_of_lt hlt), ⟨⟨.none, he⟩, itK_new hit⟩, fun b hb => ?_, q⟩
  have e' : b = s1.heap.objs.size + 1 ∨ b = s1.heap.objs.size := by simpa using hb
  have hle : s1.heap.objs.size ≤ b := by
    rcases e' with z | z
    · rw [z]; exact Nat.le_succ _
    · rw [z]; exact Nat.le_refl _
  exact I1.fpOk hle (I1.hok.fresh hle)
theorem sep_of {n a b : Nat} (ha : a < n) (hb : b < n) : ZipSep2 (n + 4) (n + 2) (n + 3) n (n + 1) [n, a] [n + 1, b] where
  TIz := by show n + 2 ≠ n + 4; omega
  TOz := by show n + 3 ≠ n + 4; omega
  TITO := by show n + 2 ≠ n + 3; omega
  TIi1 := by show n + 2 ≠ n; omega
  mem1 := List.mem_cons_self
  zf1 := by intro h; have : n + 4 = n ∨ n + 4 = a := by simpa using h
            omega
  Tf1 := by intro h; have : n + 3 = n ∨ n + 3 = a := by simpa using h
            omega
  TIi2 := by show n + 2 ≠ n + 1; omega
  mem2 := List.mem_cons_self
  zf2 := by intro h; have : n + 4 = n + 1 ∨ n + 4 = b := by simpa using h
            omega
  Tf2 := by intro h; have : n + 3 = n + 1 ∨ n + 3 = b := by simpa using h
            omega
  sep1_2 := by intro h; have : n = n + 1 ∨ n = b := by simpa using h
               omega
  sep2_1 := by intro h; have : n + 1 = n ∨ n + 1 = a := by simpa using h
               omega
theorem pi_zipK {e e2 : Expr} {ta : TA} {p pos tpos : Pos} {elts : List Expr} {kk : Nat} (hg : Gl X "zip") (hm : X.mg "zip" = none) (ha : PA X [e, e2] ta)
    (hs : starEach [e, e2] X.env = (false, eval e X.env) :: starEach [e2] X.env := by rfl) (hpl : (backTo pos (starEach [e2] X.env)).any (·.1) = false := by rfl) :
    PI X (.Tuple elts kk tpos) (.Call (.Name "zip" p) [e, e2] [] pos) (fun σ H R => ta σ H fun vs H1 => ∃ k1 k2 a b xs ys, vs = [.ref a, .ref b] ∧ sqK k1 X.K H1 a xs ∧ sqK k2 X.K H1 b ys ∧ R (ItzK k1 k2 X.K a b) H1) := by
  refine ⟨fun pins s σ H R I h => ?_⟩
  refine Call_ (ld_blt I hg hm PyProof.Rows.boot_zip (PyProof.Rows.callWith_type1 (thn (ha.run pos pins s σ H _ I h) fun us s1 ⟨vs, H1, I1, r1, q1⟩ => ?_) hs hpl))
  obtain ⟨k1, k2, a, b, xs, ys, ex, hqx, hqy, q⟩ := q1
  subst ex
  obtain ⟨u1, u2, rfl, r, r'⟩ := vals2 r1
  cases r
  cases r'
  obtain ⟨its, rv, p1, la⟩ := seqAt I1 hqx
  obtain ⟨its2, rv2, p2, lb⟩ := seqAt I1 hqy
  refine zip_begins2 (beginsK k1 a its.toArray) (beginsK k2 b its2.toArray) p1 p2 fun h' hz hTI hTO h1 h2 hsz hk => wpAny_pyIter_zip hz ?_
  have I2 : L2.Inv X pins σ H1 { s1 with heap := h' } := I1.kept (t' := s1.toks) hk
  refine ⟨s1.heap.objs.size + 4, [s1.heap.objs.size + 4, s1.heap.objs.size + 2, s1.heap.objs.size + 3, s1.heap.objs.size, s1.heap.objs.size + 1], _, _, H1, rfl, I2, turn_zipK k1 k2 (sep_of la lb) (Nat.ne_of_lt la) (Nat.ne_of_lt (Nat.lt_succ_of_lt lb)), ⟨hz, hTI, ⟨_, _, hTO⟩, itK_new h1, itK_new h2⟩, fun c hcm => ?_, q⟩
  have e' : c = s1.heap.objs.size + 4 ∨ c = s1.heap.objs.size + 2 ∨ c = s1.heap.objs.size + 3 ∨ c = s1.heap.objs.size ∨ c = s1.heap.objs.size + 1 := by simpa using hcm
  have hle : s1.heap.objs.size ≤ c := by
    rcases e' with z | z | z | z | z
    · rw [z]; exact Nat.le_add_right _ _
    · rw [z]; exact Nat.le_add_right _ _
    · rw [z]; exact Nat.le_add_right _ _
    · rw [z]; exact Nat.le_refl _
    · rw [z]; exact Nat.le_add_right _ _
  exact I1.fpOk hle (I1.hok.fresh hle)
end
end DL
/-! Statements, targets, loops, comprehensions over plain data. -/
namespace DL
open PySem PySem.Spec PyProof.Rows L2

/-! ### targets -/
def dgName (i : Nat) : DG := fun d ρ M P => P (ρ.set i (some d)) M
def dgNil : DGs := fun ds ρ M P => ds = [] ∧ P ρ M
def dgCons (t : DG) (u : DGs) : DGs := fun ds ρ M P => match ds with
  | d :: r => t d ρ M fun ρ' M' => u r ρ' M' P
  | [] => False
def dgTup (n : Nat) (t : DGs) : DG := fun d ρ M P => match d with
  | .tup ds => ds.length = n ∧ t ds ρ M P
  | _ => False
section
variable {X : Cx} {e : Expr} {es : List Expr} {pos : Pos}
theorem set_out {σ : L2.St} {i j : Nat} {v : Option V} (h : j ∉ [i]) : (σ.set i v)[j]? = σ[j]? := by
  rw [List.getElem?_set_ne]
  intro e
  exact h (by simp [e])
theorem gx_name (i : Nat) {x : Str} (h : PG X (.Name x pos) (gName i)) : GX X [i] (.Name x pos) (dgName i) :=
  PG.of h fun v σ H Q ⟨d, ρ, M, P, r, S, A, t, m⟩ => m _ M _ H t (Ext.refl H) (S.set r i) A ⟨fun j hj => set_out hj, List.length_set⟩
theorem gsx_nil : GsX X [] [] dgNil := PGs.of pgs_nil fun vs σ H Q ⟨ds, ρ, M, P, r, S, A, t, m⟩ => by
  obtain ⟨rfl, t⟩ := t
  cases r
  exact ⟨rfl, m _ M _ H t (Ext.refl H) S A ⟨fun _ _ => rfl, rfl⟩⟩
theorem gsx_cons {s1 s2 : List Nat} {t : DG} {u : DGs} (h1 : GX X s1 e t) (h2 : GsX X s2 es u) (hs : (assignEach (e :: es) X.env).map (·.2) = assign e X.env :: (assignEach es X.env).map (·.2) := by rfl) : GsX X (s1 ++ s2) (e :: es) (dgCons t u) :=
  PGs.of (pgs_cons h1 h2 hs) fun vs σ H Q ⟨ds, ρ, M, P, r, S, A, t, m⟩ => by
    cases r with
    | nil => exact t.elim
    | cons r rs => exact ⟨_, _, rfl, _, ρ, M, _, r, S, A, t, fun ρ' M' σ' H' t' e' S' A' k => ⟨_, ρ', M', _, rs.ext e', S', A', t', fun ρ2 M2 σ2 H2 p e2 S2 A2 k2 => m ρ2 M2 σ2 H2 p (e'.trans e2) S2 A2 ⟨fun i hi => (k2.1 i fun z => hi (List.mem_append_right _ z)).trans (k.1 i fun z => hi (List.mem_append_left _ z)), k2.2.trans k.2⟩⟩⟩
theorem gx_tup {k : Nat} {sl : List Nat} {t : DGs} {n : Nat} (hc : X.calm = true) (h : GsX X sl es t) (hn : (assignEach es X.env).length = n := by rfl) (hst : (assignEach es X.env).findIdx? (·.1) = none := by rfl) : GX X sl (.Tuple es k pos) (dgTup n t) :=
  PG.of (pg_tup hc h hn hst) fun v σ H Q ⟨d, ρ, M, P, r, S, A, t, m⟩ => by
    unfold dgTup at t
    split at t
    · obtain ⟨a, vs, rfl, hq, rs⟩ := r.tp
      exact ⟨a, vs, rfl, hq, by rw [← rs.length]; exact t.1, _, ρ, M, P, rs, S, A, t.2, m⟩
    · exact t.elim
end

/-! ### statements -/
def dSeq (t u : DS) : DS := fun E ρ M => t { E with nx := u E } ρ M
def dNext : DS := fun E ρ M => E.nx ρ M
def dBreak : DS := fun E ρ M => E.bk ρ M
def dCont : DS := fun E ρ M => E.ct ρ M
def dNever : DS := fun _ _ _ => False
def dExpr (te : DE) : DS := fun E ρ M => te ρ M fun _ M1 => E.nx ρ M1
def dRet (te : DE) : DS := fun E ρ M => te ρ M E.rt
def dRetN : DS := fun E _ M => E.rt .non M
def dIfS (c : DT) (t u : DS) : DS := fun E ρ M => c ρ M fun b M1 => if b = true then t E ρ M1 else u E ρ M1
def dSet (i : Nat) (te : DE) : DS := fun E ρ M => te ρ M fun d M1 => E.nx (ρ.set i (some d)) M1
def dAsg (te : DE) (g : DG) : DS := fun E ρ M => te ρ M fun d M1 => g d ρ M1 E.nx
def dPar2 (i j : Nat) (ta : DA) : DS := fun E ρ M => ta ρ M fun ds M1 => match ds with
  | [v, w] => E.nx ((ρ.set i (some v)).set j (some w)) M1
  | _ => False
def dPar3 (i j l : Nat) (ta : DA) : DS := fun E ρ M => ta ρ M fun ds M1 => match ds with
  | [u, v, w] => E.nx (((ρ.set i (some u)).set j (some v)).set l (some w)) M1
  | _ => False
/-- a tuple that is unpacked at once, whatever stands in it -/
def dParN (ta : DA) (gs : DGs) : DS := fun E ρ M => ta ρ M fun ds M1 => ds.length ≤ sizeLine ∧ gs ds ρ M1 E.nx
def dStore (to ti te : DE) : DS := fun E ρ M => te ρ M fun v M1 => to ρ M1 fun o M2 => ti ρ M2 fun i M3 => match o, i with
  | .ref a, .int k => withL M3 a fun xs => ∃ j, ixN xs.length k = some j ∧ E.nx ρ (mset M3 a (.lst (xs.set j v)))
  | _, _ => False
section
variable {X : Cx} {st : Stmt} {rest : List Stmt} {t u : DS} {te to ti : DE} {pos : Pos}
theorem LS_E {K : PySem.W.Frag} {Z : Ends} {σ : L2.St} {H : Hp} {te : DE} {ρ : Rho} {M : Mem} {G : D → Mem → Prop} {Q : VK} (S : RepS K H ρ σ) (A : Abs K H M) (t : te ρ M G) (m : Met K H G Q) : LE K te σ H Q := ⟨ρ, M, G, S, A, t, m⟩
theorem ssx_nil : SsX X [] dNext := PSs.of pss_nil fun σ H Z ⟨ρ, M, E, S, A, t, m⟩ => m.nx ρ M σ H t (Ext.refl H) S A
theorem ssx_cons (h1 : SX X st t) (h2 : SsX X rest u) : SsX X (st :: rest) (dSeq t u) := PSs.of (pss_cons h1 h2) fun σ H Z ⟨ρ, M, E, S, A, t, m⟩ =>
  ⟨ρ, M, _, S, A, t, ⟨fun ρ' M' σ' H' p e S' A' => ⟨ρ', M', E, S', A', p, m.ext e⟩, m.bk, m.ct, m.rt⟩⟩
theorem ssx_one (h1 : SX X st t) : SsX X [st] t := pss_one h1
theorem sx_pass : SX X (.Pass pos) dNext := PS.of ps_pass fun σ H Z ⟨ρ, M, E, S, A, t, m⟩ => m.nx ρ M σ H t (Ext.refl H) S A
theorem sx_break : SX X (.Break pos) dBreak := PS.of ps_break fun σ H Z ⟨ρ, M, E, S, A, t, m⟩ => m.bk ρ M σ H t (Ext.refl H) S A
theorem sx_cont : SX X (.Continue pos) dCont := PS.of ps_continue fun σ H Z ⟨ρ, M, E, S, A, t, m⟩ => m.ct ρ M σ H t (Ext.refl H) S A
theorem sx_never : SX X st dNever := ⟨fun _ _ _ _ _ _ ⟨_, _, _, _, _, t, _⟩ => t.elim⟩
theorem ssx_never : SsX X rest dNever := ⟨fun _ _ _ _ _ _ ⟨_, _, _, _, _, t, _⟩ => t.elim⟩
theorem sx_expr (h : PS X st (tDrop (LE X.K te))) : SX X st (dExpr te) := PS.of h fun σ H Z ⟨ρ, M, E, S, A, t, m⟩ => ⟨ρ, M, _, S, A, t, fun d M' v H' p e a r => m.nx ρ M' σ H' p e (S.ext e) a⟩
theorem sx_ret (h : PS X st (tRet (LE X.K te))) : SX X st (dRet te) := PS.of h fun σ H Z ⟨ρ, M, E, S, A, t, m⟩ => ⟨ρ, M, _, S, A, t, fun d M' v H' p e a r => m.rt d M' v H' p e a r⟩
theorem sx_retN (h : PS X st tRetN) : SX X st dRetN := PS.of h fun σ H Z ⟨ρ, M, E, S, A, t, m⟩ => m.rt _ M _ H t (Ext.refl H) A .non
theorem sx_if {c : Expr} {a b : List Stmt} {tc : DT} (hc : TX X c tc) (ha : SsX X a t) (hb : SsX X b u) : SX X (.If c a b pos) (dIfS tc t u) := PS.of (ps_if hc ha hb) fun σ H Z ⟨ρ, M, E, S, A, t, m⟩ =>
  ⟨ρ, M, _, S, A, t, fun k M' H' p e a => by
    cases k with
    | true => exact iteT ⟨ρ, M', E, S.ext e, a, p, m.ext e⟩
    | false => exact iteF ⟨ρ, M', E, S.ext e, a, p, m.ext e⟩⟩
theorem sx_set (i : Nat) (h : PS X st (tAsg (LE X.K te) (gName i))) : SX X st (dSet i te) := PS.of h fun σ H Z ⟨ρ, M, E, S, A, t, m⟩ =>
  ⟨ρ, M, _, S, A, t, fun d M' v H' p e a r => m.nx _ M' _ H' p e ((S.ext e).set r i) a⟩
theorem sx_asg {sl : List Nat} {g : DG} (h : PS X st (tAsg (LE X.K te) (LG X.K sl g))) : SX X st (dAsg te g) := PS.of h fun σ H Z ⟨ρ, M, E, S, A, t, m⟩ =>
  ⟨ρ, M, _, S, A, t, fun d M' v H' p e a r => ⟨d, ρ, M', _, r, S.ext e, a, p, fun ρ2 M2 σ2 H2 p2 e2 S2 A2 _ => m.nx ρ2 M2 σ2 H2 p2 (e.trans e2) S2 A2⟩⟩
theorem sx_par2 (i j : Nat) {ta : DA} (h : PS X st (tPar i j (LA X.K ta))) : SX X st (dPar2 i j ta) := PS.of h fun σ H Z ⟨ρ, M, E, S, A, t, m⟩ =>
  ⟨ρ, M, _, S, A, t, fun ds M' vs H' p e a r => by
    split at p
    · obtain ⟨v, w, rfl, r1, r2⟩ := r.in2
      exact ⟨v, w, rfl, m.nx _ M' _ H' p e (((S.ext e).set r1 i).set r2 j) a⟩
    · exact p.elim⟩
theorem sx_par3 (i j l : Nat) {ta : DA} (h : PS X st (tPar3 i j l (LA X.K ta))) : SX X st (dPar3 i j l ta) := PS.of h fun σ H Z ⟨ρ, M, E, S, A, t, m⟩ =>
  ⟨ρ, M, _, S, A, t, fun ds M' vs H' p e a r => by
    split at p
    · cases r with
      | cons r0 r =>
        obtain ⟨v, w, rfl, r1, r2⟩ := r.in2
        exact ⟨_, v, w, rfl, m.nx _ M' _ H' p e ((((S.ext e).set r0 i).set r1 j).set r2 l) a⟩
    · exact p.elim⟩
theorem sx_parN {n : Nat} {sl : List Nat} {ta : DA} {gs : DGs} (h : PS X st (tAsg (tTup (LA X.K ta)) (gTup X.K n (LGs X.K sl gs)))) (hn : ∀ ρ M P, ta ρ M P → ta ρ M fun ds M' => ds.length = n ∧ P ds M') : SX X st (dParN ta gs) := PS.of h fun σ H Z ⟨ρ, M, E, S, A, t, m⟩ =>
  ⟨ρ, M, _, S, A, hn ρ M _ t, fun ds M' vs H' p e a r => ⟨by rw [← r.length]; exact p.2.1, fun q hq => ⟨q, vs, rfl, .inl (.inl upd_same), by rw [← r.length]; exact p.1,
    ds, ρ, M', _, r.ext (Ext.new hq), (S.ext e).ext (Ext.new hq), a.more hq, p.2.2, fun ρ2 M2 σ2 H2 p2 e2 S2 A2 _ => m.nx ρ2 M2 σ2 H2 p2 ((e.trans (Ext.new hq)).trans e2) S2 A2⟩⟩⟩
theorem dNil_len : ∀ ρ M P, dNil ρ M P → dNil ρ M fun ds M' => ds.length = 0 ∧ P ds M' := fun _ _ _ h => ⟨rfl, h⟩
theorem sx_store (h : PS X st (tAsg (LE X.K te) (gSub (LE X.K to) (LE X.K ti) rSetL))) : SX X st (dStore to ti te) := PS.of h fun σ H Z ⟨ρ, M, E, S, A, t, m⟩ =>
  ⟨ρ, M, _, S, A, t, fun d M1 v H1 t1 e1 a1 r1 => ⟨ρ, M1, _, S.ext e1, a1, t1, fun o M2 ov H2 t2 e2 a2 r2 => ⟨ρ, M2, _, (S.ext e1).ext e2, a2, t2, fun i M3 iv H3 t3 e3 a3 r3 => by
    split at t3
    · obtain ⟨xs, hM, j, hj, q⟩ := t3
      cases r2; cases r3
      obtain ⟨vs, hH, rs⟩ := a3.at hM
      have E3 := (e1.trans e2).trans e3
      exact ⟨_, vs, _, j, rfl, rfl, hH, by rw [← rs.length]; exact hj, m.nx ρ _ σ _ q (E3.trans (Ext.lst hH)) ((S.ext E3).ext (Ext.lst hH)) (a3.set hH (rs.set ((r1.ext e2).ext e3) j))⟩
    · exact t3.elim⟩⟩⟩
end

/-! ### for -/
def forGo (chk : Mem → Prop) (g : DG) (tb : DS) (E : DEnds) : List D → Rho → Mem → Prop
  | [], ρ, M => chk M ∧ E.nx ρ M
  | d :: r, ρ, M => chk M ∧ g d ρ M fun ρ' M' => tb { E with nx := forGo chk g tb E r, ct := forGo chk g tb E r, bk := E.nx } ρ' M'
def dFor (wi : DI) (g : DG) (tb : DS) : DS := fun E ρ M => wi ρ M fun S M1 => forGo S.chk g tb E S.items ρ M1
theorem forGo_chk {chk : Mem → Prop} {g : DG} {tb : DS} {E : DEnds} {l : List D} {ρ : Rho} {M : Mem} (h : forGo chk g tb E l ρ M) : chk M := by
  cases l with
  | nil => exact h.1
  | cons d r => exact h.1
section
variable {X : Cx} {st : Stmt}
theorem sx_for {sl : List Nat} {wi : DI} {g : DG} {tb : DS} (h : PS X st (tFor (LI X.K wi) (LG X.K sl g) (LS X.K tb))) : SX X st (dFor wi g tb) := PS.of h fun σ H Z ⟨ρ, M, E, S, A, t, m⟩ =>
  ⟨ρ, M, _, S, A, t, fun Sr M1 J H1 t1 e1 a1 wk => by
    refine ⟨fun i k σ' H' => k = Sr.items.length - i ∧ i ≤ Sr.items.length ∧ ∃ ρ' M', RepS X.K H' ρ' σ' ∧ Abs X.K H' M' ∧ Ext H1 H' ∧ forGo Sr.chk g tb E (Sr.items.drop i) ρ' M', ⟨Sr.items.length, by omega, Nat.zero_le _, ρ, M1, S.ext e1, a1, Ext.refl H1, t1⟩, ?_⟩
    rintro i k σ' H' ⟨rfl, hi, ρ', M', S', A', e', w⟩
    by_cases hlt : i < Sr.items.length
    · have hd : Sr.items.drop i = Sr.items[i] :: Sr.items.drop (i + 1) := List.drop_eq_getElem_cons hlt
      rw [hd] at w
      refine .inr ⟨wk.goes i H' M' hlt e' A' w.1, fun σ2 H2 => ∃ ρ2 M2, RepS X.K H2 ρ2 σ2 ∧ Abs X.K H2 M2 ∧ Ext H1 H2 ∧ forGo Sr.chk g tb E (Sr.items.drop (i + 1)) ρ2 M2, fun σ2 H2 ⟨ρ2, M2, a, b, c, d⟩ => ⟨Sr.items.length - (i + 1), by omega, rfl, hlt, ρ2, M2, a, b, c, d⟩, fun x H2 y => ?_⟩
      obtain ⟨d, hd2, e2, A2, r2⟩ := wk.yields i H' M' x H2 hlt e' A' w.1 y
      have ed : d = Sr.items[i] := by
        rw [List.getElem?_eq_getElem hlt] at hd2
        exact (Option.some.inj hd2).symm
      subst ed
      refine ⟨_, ρ', M', _, r2, S'.ext e2, A2, w.2, fun ρ3 M3 σ3 H3 t3 e3 S3 A3 _ => ⟨ρ3, M3, _, S3, A3, t3, ?_⟩⟩
      have E3 := (e'.trans e2).trans e3
      have mm := m.ext (e1.trans E3)
      exact ⟨fun ρ4 M4 σ4 H4 p e4 S4 A4 => ⟨ρ4, M4, S4, A4, E3.trans e4, p⟩, fun ρ4 M4 σ4 H4 p e4 S4 A4 => mm.nx ρ4 M4 σ4 H4 p e4 S4 A4, fun ρ4 M4 σ4 H4 p e4 S4 A4 => ⟨ρ4, M4, S4, A4, E3.trans e4, p⟩, mm.rt⟩
    · have hn : i = Sr.items.length := by omega
      subst hn
      rw [List.drop_length] at w
      exact .inl ⟨wk.stops H' M' e' A' w.1, m.nx ρ' M' σ' H' w.2 (e1.trans e') S' A'⟩⟩
/-- while -/
def dWhile (c : DT) (tb : DS) : DS := fun E ρ M => ∃ W : Nat → Rho → Mem → Prop, (∃ m, W m ρ M) ∧ ∀ m ρ M, W m ρ M →
  c ρ M fun b M1 => if b = true then ∃ N : Rho → Mem → Prop, (∀ ρ' M', N ρ' M' → ∃ m', m' < m ∧ W m' ρ' M') ∧ tb { E with nx := N, ct := N, bk := E.nx } ρ M1 else E.nx ρ M1
theorem sx_while {c : DT} {tb : DS} (h : PS X st (tWhile (LT X.K c) (LS X.K tb))) : SX X st (dWhile c tb) := PS.of h fun σ H Z ⟨ρ, M, E, S, A, ⟨W, ⟨m0, w0⟩, turn⟩, m⟩ => by
  refine ⟨fun k σ' H' => ∃ ρ' M', RepS X.K H' ρ' σ' ∧ Abs X.K H' M' ∧ Ext H H' ∧ W k ρ' M', ⟨m0, ρ, M, S, A, Ext.refl H, w0⟩, ?_⟩
  rintro k σ' H' ⟨ρ', M', S', A', e', w⟩
  refine ⟨ρ', M', _, S', A', turn k ρ' M' w, fun b M1 H1 p e1 a1 => ?_⟩
  cases b with
  | false => exact iteF (m.nx ρ' M1 σ' H1 (by simpa using p) (e'.trans e1) (S'.ext e1) a1)
  | true =>
    obtain ⟨N, hN, p⟩ : ∃ N : Rho → Mem → Prop, (∀ ρ' M', N ρ' M' → ∃ m', m' < k ∧ W m' ρ' M') ∧ tb { E with nx := N, ct := N, bk := E.nx } ρ' M1 := by simpa using p
    refine iteT ⟨fun σ2 H2 => ∃ ρ2 M2, RepS X.K H2 ρ2 σ2 ∧ Abs X.K H2 M2 ∧ Ext H H2 ∧ N ρ2 M2, fun σ2 H2 ⟨ρ2, M2, a, b, c, d⟩ => ?_, ρ', M1, _, S'.ext e1, a1, p, ?_⟩
    · obtain ⟨m', hm, w'⟩ := hN ρ2 M2 d
      exact ⟨m', hm, ρ2, M2, a, b, c, w'⟩
    · have mm := m.ext (e'.trans e1)
      exact ⟨fun ρ4 M4 σ4 H4 p e4 S4 A4 => ⟨ρ4, M4, S4, A4, (e'.trans e1).trans e4, p⟩, fun ρ4 M4 σ4 H4 p e4 S4 A4 => mm.nx ρ4 M4 σ4 H4 p e4 S4 A4, fun ρ4 M4 σ4 H4 p e4 S4 A4 => ⟨ρ4, M4, S4, A4, (e'.trans e1).trans e4, p⟩, mm.rt⟩
end

/-! ### what is walked -/
def sqKind : D → SK
  | .tup _ => .t
  | _ => .l
def enumD : Nat → List D → List D
  | _, [] => []
  | k, x :: r => .tup [.int (k : Nat), x] :: enumD (k + 1) r
def zipD (xs ys : List D) : List D := List.zipWith (fun x y => .tup [x, y]) xs ys
def rangeD (lo : Int) (n : Nat) (c : Int) : List D := (List.range n).map fun (k : Nat) => .int (lo + k * c)
theorem enumD_len : ∀ (k : Nat) (xs : List D), (enumD k xs).length = xs.length
  | _, [] => rfl
  | k, x :: r => by simp [enumD, enumD_len (k + 1) r]
theorem enumD_get : ∀ (k : Nat) (xs : List D) (i : Nat), (enumD k xs)[i]? = (xs[i]?).map fun x => .tup [.int ((k + i : Nat) : Int), x]
  | _, [], i => by simp [enumD]
  | k, x :: r, 0 => by simp [enumD]
  | k, x :: r, i + 1 => by
    simp only [enumD, List.getElem?_cons_succ]
    rw [enumD_get (k + 1) r i]
    rw [show k + 1 + i = k + (i + 1) by omega]
def dSeqI (te : DE) : DI := fun ρ M P => te ρ M fun d M1 => match d with
  | .str z => P ⟨z.cps.toList.map fun c => .str ⟨#[c]⟩, fun _ => True⟩ M1
  | d => ∃ xs, sqOf M1 d = some xs ∧ P ⟨xs, fun M => sqOf M d = some xs⟩ M1
def dEnumI (ta : DE) : DI := fun ρ M P => ta ρ M fun d M1 => ∃ xs, sqOf M1 d = some xs ∧ P ⟨enumD 0 xs, fun M => sqOf M d = some xs⟩ M1
def dZipI (ta tb : DE) : DI := fun ρ M P => ta ρ M fun d M1 => tb ρ M1 fun e M2 => ∃ xs ys, sqOf M2 d = some xs ∧ sqOf M2 e = some ys ∧ P ⟨zipD xs ys, fun M => sqOf M d = some xs ∧ sqOf M e = some ys⟩ M2
def dRange1 (te : DE) : DI := fun ρ M P => te ρ M fun d M1 => match d with
  | .int n => -(2 ^ 62) ≤ n ∧ n < 2 ^ 62 ∧ P ⟨rangeD 0 n.toNat 1, fun _ => True⟩ M1
  | _ => False
def dRange2 (ta tb : DE) : DI := fun ρ M P => ta ρ M fun d M1 => tb ρ M1 fun e M2 => match d, e with
  | .int i, .int j => (-(2 ^ 62) ≤ i ∧ i < 2 ^ 62 ∧ -(2 ^ 62) ≤ j ∧ j < 2 ^ 62) ∧ P ⟨rangeD i (j - i).toNat 1, fun _ => True⟩ M2
  | _, _ => False
def dRange3 (ta tb tc : DE) : DI := fun ρ M P => ta ρ M fun d M1 => tb ρ M1 fun e M2 => tc ρ M2 fun f M3 => match d, e, f with
  | .int i, .int j, .int c => ∃ n, RgC i j c n ∧ P ⟨rangeD i n c, fun _ => True⟩ M3
  | _, _, _ => False
section
variable {X : Cx} {tg : Expr} {K : PySem.W.Frag} {H : Hp} {M : Mem} {d : D} {v : V}
theorem Rep.sqK (r : Rep K H d v) (A : Abs K H M) {xs : List D} (h : sqOf M d = some xs) : ∃ a vs, v = .ref a ∧ sqK (sqKind d) K H a vs ∧ Reps K H xs vs := by
  cases d with
  | tup ys =>
    have e : ys = xs := Option.some.inj h
    subst e
    exact r.tp
  | lst ys => exact r.ls A (ds := xs) h
  | ref a => exact r.ls A (ds := xs) h
  | scr a => exact r.ls A (ds := xs) h
  | _ => cases h
theorem wk_seq {a : Addr} {xs : List D} (r : Rep K H d (.ref a)) : WalkD K H (match sqKind d with
    | .l => Itl K a
    | .t => Itt K a) ⟨xs, fun M => sqOf M d = some xs⟩ := by
  have at_ : ∀ {H' : Hp} {M' : Mem}, Ext H H' → Abs K H' M' → sqOf M' d = some xs → ∃ vs, DL.sqK (sqKind d) K H' a vs ∧ Reps K H' xs vs := fun {H' M'} e A h => by
    obtain ⟨b, vs, eb, hq, rs⟩ := (r.ext e).sqK A h
    cases eb
    exact ⟨vs, hq, rs⟩
  have len : ∀ {H' : Hp} {vs : List V}, Reps K H' xs vs → vs.length = xs.length := fun rs => rs.length.symm
  cases hk : sqKind d with
  | l =>
    refine ⟨fun i H' M' hi e A h => ?_, fun H' M' e A h => ?_, fun i H' M' x H2 hi e A h y => ?_⟩
    · obtain ⟨vs, hq, rs⟩ := at_ e A h
      rw [hk] at hq
      exact ⟨vs, vs[i]'(by rw [len rs]; exact hi), hq, by simp [len rs]⟩
    · obtain ⟨vs, hq, rs⟩ := at_ e A h
      rw [hk] at hq
      exact ⟨vs, hq, Nat.le_of_eq (len rs)⟩
    · obtain ⟨vs, hq, rs⟩ := at_ e A h
      rw [hk] at hq
      obtain ⟨rfl, y⟩ := y
      obtain ⟨d', h1, h2⟩ := rs.getV (y vs hq)
      exact ⟨d', h1, Ext.refl _, A, h2⟩
  | t =>
    refine ⟨fun i H' M' hi e A h => ?_, fun H' M' e A h => ?_, fun i H' M' x H2 hi e A h y => ?_⟩
    · obtain ⟨vs, hq, rs⟩ := at_ e A h
      rw [hk] at hq
      exact ⟨vs, vs[i]'(by rw [len rs]; exact hi), hq, by simp [len rs]⟩
    · obtain ⟨vs, hq, rs⟩ := at_ e A h
      rw [hk] at hq
      exact ⟨vs, hq, Nat.le_of_eq (len rs)⟩
    · obtain ⟨vs, hq, rs⟩ := at_ e A h
      rw [hk] at hq
      obtain ⟨rfl, y⟩ := y
      obtain ⟨d', h1, h2⟩ := rs.getV (y vs hq)
      exact ⟨d', h1, Ext.refl _, A, h2⟩
theorem wk_str {z : Str} : WalkD K H (Its z) ⟨z.cps.toList.map fun c => .str ⟨#[c]⟩, fun _ => True⟩ := by
  refine ⟨fun i H' M' hi e A h => by show i < z.cps.size; simpa using hi, fun H' M' e A h => by show z.cps.size ≤ _; simp, fun i H' M' x H2 hi e A h y => ?_⟩
  obtain ⟨rfl, c, hc, rfl⟩ := y
  exact ⟨_, by simp [hc], Ext.refl _, A, .str _⟩
theorem wk_range {lo c : Int} {n : Nat} : WalkD K H (Itc lo c n) ⟨rangeD lo n c, fun _ => True⟩ := by
  have hl : (rangeD lo n c).length = n := by simp [rangeD]
  refine ⟨fun i H' M' hi e A h => by rw [hl] at hi; exact hi, fun H' M' e A h => by show n ≤ _; rw [hl]; exact Nat.le_refl _, fun i H' M' x H2 hi e A h y => ?_⟩
  obtain ⟨rfl, rfl⟩ := y
  rw [hl] at hi
  exact ⟨.int (lo + i * c), by simp [rangeD, hi], Ext.refl _, A, .int _⟩
theorem wk_rangeR {lo : Int} {n : Nat} : WalkD K H (Itr lo n) ⟨rangeD lo n 1, fun _ => True⟩ := by
  have hl : (rangeD lo n 1).length = n := by simp [rangeD]
  refine ⟨fun i H' M' hi e A h => by rw [hl] at hi; exact hi, fun H' M' e A h => by show n ≤ _; rw [hl]; exact Nat.le_refl _, fun i H' M' x H2 hi e A h y => ?_⟩
  obtain ⟨rfl, rfl⟩ := y
  rw [hl] at hi
  exact ⟨.int (lo + i * 1), by simp [rangeD, hi], Ext.refl _, A, by rw [Int.mul_one]; exact .int _⟩
theorem wk_enum {a : Addr} {xs : List D} (r : Rep K H d (.ref a)) : WalkD K H (IteK (sqKind d) K a) ⟨enumD 0 xs, fun M => sqOf M d = some xs⟩ := by
  have at_ : ∀ {H' : Hp} {M' : Mem}, Ext H H' → Abs K H' M' → sqOf M' d = some xs → ∃ vs, DL.sqK (sqKind d) K H' a vs ∧ Reps K H' xs vs := fun {H' M'} e A h => by
    obtain ⟨b, vs, eb, hq, rs⟩ := (r.ext e).sqK A h
    cases eb
    exact ⟨vs, hq, rs⟩
  have len : ∀ {H' : Hp} {vs : List V}, Reps K H' xs vs → vs.length = xs.length := fun rs => rs.length.symm
  refine ⟨fun i H' M' hi e A h => ?_, fun H' M' e A h => ?_, fun i H' M' x H2 hi e A h y => ?_⟩
  · obtain ⟨vs, hq, rs⟩ := at_ e A h
    rw [enumD_len] at hi
    exact ⟨vs, vs[i]'(by rw [len rs]; exact hi), hq, by simp [len rs]⟩
  · obtain ⟨vs, hq, rs⟩ := at_ e A h
    exact ⟨vs, hq, by rw [enumD_len]; exact len rs⟩
  · obtain ⟨vs, hq, rs⟩ := at_ e A h
    obtain ⟨T, x, rfl, hT, rfl, y⟩ := y
    obtain ⟨d', h1, h2⟩ := rs.getV (y vs hq)
    refine ⟨.tup [.int ((0 + i : Nat) : Int), d'], by rw [enumD_get, h1]; rfl, Ext.new hT, A.more hT, .tup (.inl (.inl upd_same)) ?_⟩
    rw [Nat.zero_add]
    exact .cons (.int _) (.one (h2.ext (Ext.new hT)))
theorem zipD_get {xs ys : List D} {i : Nat} {x y : D} (h1 : xs[i]? = some x) (h2 : ys[i]? = some y) : (zipD xs ys)[i]? = some (.tup [x, y]) := by
  unfold zipD
  rw [List.getElem?_zipWith, h1, h2]
theorem wk_zip {e : D} {a b : Addr} {xs ys : List D} (r : Rep K H d (.ref a)) (r' : Rep K H e (.ref b)) : WalkD K H (ItzK (sqKind d) (sqKind e) K a b) ⟨zipD xs ys, fun M => sqOf M d = some xs ∧ sqOf M e = some ys⟩ := by
  have at_ : ∀ {d : D} {a : Addr} {xs : List D}, Rep K H d (.ref a) → ∀ {H' : Hp} {M' : Mem}, Ext H H' → Abs K H' M' → sqOf M' d = some xs → ∃ vs, DL.sqK (sqKind d) K H' a vs ∧ Reps K H' xs vs := fun {d a xs} r {H' M'} e A h => by
    obtain ⟨b, vs, eb, hq, rs⟩ := (r.ext e).sqK A h
    cases eb
    exact ⟨vs, hq, rs⟩
  have hl : (zipD xs ys).length = min xs.length ys.length := by simp [zipD]
  refine ⟨fun i H' M' hi e A h => ?_, fun H' M' e A h => ?_, fun i H' M' x H2 hi e A h y => ?_⟩
  · obtain ⟨vs, hq, rs⟩ := at_ r e A h.1
    obtain ⟨ws, hq2, rs2⟩ := at_ r' e A h.2
    rw [hl] at hi
    have h1 : i < vs.length := by rw [← rs.length]; omega
    have h2 : i < ws.length := by rw [← rs2.length]; omega
    exact ⟨vs, ws, vs[i], ws[i], hq, hq2, by simp, by simp⟩
  · obtain ⟨vs, hq, rs⟩ := at_ r e A h.1
    obtain ⟨ws, hq2, rs2⟩ := at_ r' e A h.2
    exact ⟨vs, ws, hq, hq2, by rw [hl, rs.length, rs2.length]⟩
  · obtain ⟨vs, hq, rs⟩ := at_ r e A h.1
    obtain ⟨ws, hq2, rs2⟩ := at_ r' e A h.2
    obtain ⟨T, x, y, rfl, hT, rfl, y1, y2⟩ := y
    obtain ⟨d1, h1, h2⟩ := rs.getV (y1 vs hq)
    obtain ⟨d2, h3, h4⟩ := rs2.getV (y2 ws hq2)
    exact ⟨.tup [d1, d2], zipD_get h1 h3, Ext.new hT, A.more hT, .tup (.inl (.inl upd_same)) (.cons (h2.ext (Ext.new hT)) (.one (h4.ext (Ext.new hT))))⟩
end
section
variable {X : Cx} {tg e e2 e3 : Expr} {te ta tb tc : DE} {p pos tpos : Pos} {elts : List Expr} {kk : Nat}
theorem ix_seqI (he : EX X e te) : IX X tg e (dSeqI te) := PI.of (pi_seq he) fun σ H R ⟨ρ, M, P, S, A, t, m⟩ => ⟨ρ, M, _, S, A, t, fun d M1 v H1 t1 e1 a1 r1 => by
  have go : ∀ xs, sqOf M1 d = some xs → P ⟨xs, fun M => sqOf M d = some xs⟩ M1 → (∃ a xs, v = .ref a ∧ SqL X.K H1 a xs ∧ R (Itl X.K a) H1) ∨ (∃ a xs, v = .ref a ∧ SqT X.K H1 a xs ∧ R (Itt X.K a) H1) ∨ ∃ x, v = .str x ∧ R (Its x) H1 := fun xs h q => by
    obtain ⟨a, vs, rfl, hq, rs⟩ := r1.sqK a1 h
    have w := wk_seq (xs := xs) r1
    cases hk : sqKind d with
    | l => rw [hk] at hq w; exact .inl ⟨a, vs, rfl, hq, m _ M1 _ H1 q e1 a1 w⟩
    | t => rw [hk] at hq w; exact .inr (.inl ⟨a, vs, rfl, hq, m _ M1 _ H1 q e1 a1 w⟩)
  cases d with
  | str z => cases r1; exact .inr (.inr ⟨z, rfl, m _ M1 _ H1 t1 e1 a1 wk_str⟩)
  | tup ys => obtain ⟨xs, h, q⟩ := t1; exact go xs h q
  | lst ys => obtain ⟨xs, h, q⟩ := t1; exact go xs h q
  | ref ys => obtain ⟨xs, h, q⟩ := t1; exact go xs h q
  | scr ys => obtain ⟨xs, h, q⟩ := t1; exact go xs h q
  | _ => obtain ⟨xs, h, q⟩ := t1; cases h⟩
theorem LA1 {K : PySem.W.Frag} {t : DE} {σ : L2.St} {H : Hp} {Q : List V → Hp → Prop} {ρ : Rho} {M : Mem} {G : D → Mem → Prop} (S : RepS K H ρ σ) (A : Abs K H M) (h : t ρ M G) (m : ∀ d M' v H', G d M' → Ext H H' → Abs K H' M' → Rep K H' d v → Q [v] H') : LA K (dCons t dNil) σ H Q := by
  refine ⟨ρ, M, fun ds M' => ∃ d, ds = [d] ∧ G d M', S, A, ?_, fun ds M' vs H' p e a r => ?_⟩
  · show t ρ M (fun d M' => ∃ d', [d] = [d'] ∧ G d' M')
    have : (fun d M' => ∃ d', [d] = [d'] ∧ G d' M') = G := by
      funext d M'
      exact propext ⟨fun ⟨d', e, h⟩ => by cases e; exact h, fun h => ⟨d, rfl, h⟩⟩
    rw [this]
    exact h
  · obtain ⟨d, rfl, p⟩ := p
    obtain ⟨v, rfl, r1⟩ := r.in1
    exact m d M' v H' p e a r1
theorem LA2 {K : PySem.W.Frag} {t u : DE} {σ : L2.St} {H : Hp} {Q : List V → Hp → Prop} {ρ : Rho} {M : Mem} {G : D → D → Mem → Prop} (S : RepS K H ρ σ) (A : Abs K H M) (h : t ρ M fun d M1 => u ρ M1 fun e M2 => G d e M2) (m : ∀ d d2 M' v v2 H', G d d2 M' → Ext H H' → Abs K H' M' → Rep K H' d v → Rep K H' d2 v2 → Q [v, v2] H') : LA K (dCons t (dCons u dNil)) σ H Q := by
  refine ⟨ρ, M, fun ds M' => ∃ d d2, ds = [d, d2] ∧ G d d2 M', S, A, ?_, fun ds M' vs H' p e a r => ?_⟩
  · show t ρ M (fun d M1 => u ρ M1 (fun d2 M' => ∃ d' d2', [d, d2] = [d', d2'] ∧ G d' d2' M'))
    have : (fun d M1 => u ρ M1 (fun d2 M' => ∃ d' d2', [d, d2] = [d', d2'] ∧ G d' d2' M')) = fun d M1 => u ρ M1 fun e M2 => G d e M2 := by
      funext d M1
      have : (fun d2 M' => ∃ d' d2', [d, d2] = [d', d2'] ∧ G d' d2' M') = G d := by
        funext d2 M'
        exact propext ⟨fun ⟨d', d2', e, h⟩ => by cases e; exact h, fun h => ⟨d, d2, rfl, h⟩⟩
      rw [this]
    rw [this]
    exact h
  · obtain ⟨d, d2, rfl, p⟩ := p
    obtain ⟨v, v2, rfl, r, r2⟩ := r.in2
    exact m d d2 M' v v2 H' p e a r r2
theorem ix_enum (hg : Gl X "enumerate") (hm : X.mg "enumerate" = none) (he : EX X e te) (hs : starEach [e] X.env = [(false, eval e X.env)] := by rfl) (ha : starEach [e] X.env = (false, eval e X.env) :: starEach [] X.env := by rfl) : IX X (.Tuple elts kk tpos) (.Call (.Name "enumerate" p) [e] [] pos) (dEnumI te) :=
  PI.of (pi_enumK hg hm (ax_cons he ax_nil ha) hs) fun σ H R ⟨ρ, M, P, S, A, t, m⟩ => LA1 S A t fun d M1 v H1 t1 e1 a1 r1 => by
    obtain ⟨xs, h, q⟩ := t1
    obtain ⟨a, vs, rfl, hq, rs⟩ := r1.sqK a1 h
    exact ⟨sqKind d, a, vs, rfl, hq, m _ M1 _ H1 q e1 a1 (wk_enum r1)⟩
theorem ix_zip (hg : Gl X "zip") (hm : X.mg "zip" = none) (he : EX X e te) (he2 : EX X e2 ta) (hs : starEach [e, e2] X.env = (false, eval e X.env) :: starEach [e2] X.env := by rfl) (hpl : (backTo pos (starEach [e2] X.env)).any (·.1) = false := by rfl)
    (ha : starEach [e2] X.env = (false, eval e2 X.env) :: starEach [] X.env := by rfl) : IX X (.Tuple elts kk tpos) (.Call (.Name "zip" p) [e, e2] [] pos) (dZipI te ta) :=
  PI.of (pi_zipK hg hm (ax_cons he (ax_cons he2 ax_nil ha) hs) hs hpl) fun σ H R ⟨ρ, M, P, S, A, t, m⟩ => LA2 S A t fun d d2 M1 v v2 H1 t1 e1 a1 r1 r2 => by
    obtain ⟨xs, ys, h, h', q⟩ := t1
    obtain ⟨a, vs, rfl, hq, rs⟩ := r1.sqK a1 h
    obtain ⟨b, ws, rfl, hq2, rs2⟩ := r2.sqK a1 h'
    exact ⟨sqKind d, sqKind d2, a, b, vs, ws, rfl, hq, hq2, m _ M1 _ H1 q e1 a1 (wk_zip r1 r2)⟩
theorem ix_range1 (hg : Gl X "range") (hm : X.mg "range" = none) (he : EX X e te) (hs : starEach [e] X.env = [(false, eval e X.env)] := by rfl) (ha : starEach [e] X.env = (false, eval e X.env) :: starEach [] X.env := by rfl) : IX X tg (.Call (.Name "range" p) [e] [] pos) (dRange1 te) :=
  PI.of (pi_range1 hg hm (ax_cons he ax_nil ha) hs) fun σ H R ⟨ρ, M, P, S, A, t, m⟩ => LA1 S A t fun d M1 v H1 t1 e1 a1 r1 => by
    split at t1
    · cases r1
      exact ⟨_, rfl, t1.1, t1.2.1, m _ M1 _ H1 t1.2.2 e1 a1 wk_rangeR⟩
    · exact t1.elim
theorem ix_range2 (hg : Gl X "range") (hm : X.mg "range" = none) (he : EX X e te) (he2 : EX X e2 ta) (hs : starEach [e, e2] X.env = [(false, eval e X.env), (false, eval e2 X.env)] := by rfl) (hs2 : starEach [e2] X.env = [(false, eval e2 X.env)] := by rfl)
    (h1 : starEach [e, e2] X.env = (false, eval e X.env) :: starEach [e2] X.env := by rfl) (h2 : starEach [e2] X.env = (false, eval e2 X.env) :: starEach [] X.env := by rfl) : IX X tg (.Call (.Name "range" p) [e, e2] [] pos) (dRange2 te ta) :=
  PI.of (pi_range2 hg hm (ax_cons he (ax_cons he2 ax_nil h2) h1) hs hs2) fun σ H R ⟨ρ, M, P, S, A, t, m⟩ => LA2 S A t fun d d2 M1 v v2 H1 t1 e1 a1 r1 r2 => by
    split at t1
    · cases r1; cases r2
      exact ⟨_, _, rfl, t1.1, m _ M1 _ H1 t1.2 e1 a1 wk_rangeR⟩
    · exact t1.elim
theorem ix_range3 {wi : TA → TI} (h : PI X tg e (iRng3 (LA X.K (dCons te (dCons ta (dCons tb dNil)))))) : IX X tg e (dRange3 te ta tb) :=
  PI.of h fun σ H R ⟨ρ, M, P, S, A, t, m⟩ => by
    have t' : dCons te (dCons ta (dCons tb dNil)) ρ M fun ds M3 => match ds with
        | [.int i, .int j, .int c] => ∃ n, RgC i j c n ∧ P ⟨rangeD i n c, fun _ => True⟩ M3
        | _ => False := by
      show te ρ M fun d M1 => ta ρ M1 fun e M2 => tb ρ M2 fun f M3 => _
      have : (fun d M1 => ta ρ M1 fun e M2 => tb ρ M2 fun f M3 => (match [d, e, f] with
        | [.int i, .int j, .int c] => ∃ n, RgC i j c n ∧ P ⟨rangeD i n c, fun _ => True⟩ M3
        | _ => False)) = fun d M1 => ta ρ M1 fun e M2 => tb ρ M2 fun f M3 => (match d, e, f with
        | .int i, .int j, .int c => ∃ n, RgC i j c n ∧ P ⟨rangeD i n c, fun _ => True⟩ M3
        | _, _, _ => False) := by
        funext d M1
        congr 1
        funext e M2
        congr 1
        funext f M3
        cases d <;> first | rfl | (cases e <;> first | rfl | (cases f <;> rfl))
      exact Eq.mpr (congrArg (te ρ M) this) t
    refine ⟨ρ, M, _, S, A, t', fun ds M3 vs H3 p e3 a3 r3 => ?_⟩
    split at p
    · obtain ⟨n, hn, q⟩ := p
      cases r3 with
      | cons r0 r3 =>
        obtain ⟨v, w, rfl, r1, r2⟩ := r3.in2
        cases r0; cases r1; cases r2
        exact ⟨_, _, _, n, rfl, hn, m _ M3 _ H3 q e3 a3 wk_range⟩
    · exact p.elim
end

/-! ### list comprehensions -/
def lcGo (p : Addr) (chk : Mem → Prop) (g : DG) (tt : DT) (te : DE) (ρ0 : Rho) : List D → Mem → (Mem → Prop) → Prop
  | [], M, Kn => chk M ∧ Kn M
  | d :: r, M, Kn => chk M ∧ g d ρ0 M fun ρ' M' => tt ρ' M' fun b M'' => if b = true then te ρ' M'' fun y M3 => withL M3 p fun acc => acc.length < sizeLine ∧ lcGo p chk g tt te ρ0 r (mset M3 p (.lst (acc ++ [y]))) Kn
      else lcGo p chk g tt te ρ0 r M'' Kn
def dLc (wi : DI) (g : DG) (tt : DT) (te : DE) (vs : List Nat) : DE := fun ρ M P => wi ρ M fun S M1 => ∀ p, M1 p = none → lcGo p S.chk g tt te (wipeD ρ vs) S.items (mset M1 p (.lst [])) fun M2 => P (.ref p) M2
def dYes : DT := fun _ M P => P true M
abbrev TsX (X : Cx) (ifs : List Expr) (t : DT) : Prop := PTs X ifs (LT X.K t)
theorem wipe_congr {σ σ' : L2.St} : ∀ {vs : List Nat}, (∀ i, i ∉ vs → σ'[i]? = σ[i]?) → σ'.length = σ.length → L2.wipe σ' vs = L2.wipe σ vs := by
  intro vs h hl
  refine List.ext_getElem? fun i => ?_
  by_cases hi : i ∈ vs
  · have z : ∀ (τ : L2.St), (L2.wipe τ vs)[i]? = if i < τ.length then some none else none := fun τ => by
      clear h hl
      induction vs with
      | nil => cases hi
      | cons j r ih =>
        unfold L2.wipe
        by_cases hj : j = i
        · subst hj
          rw [List.getElem?_set]
          simp only [if_true]
          rw [L2.wipe_length]
        · rw [List.getElem?_set_ne hj]
          exact ih ((List.mem_cons.mp hi).resolve_left fun e => hj e.symm)
    rw [z, z, hl]
  · rw [L2.wipe_out hi, L2.wipe_out hi]
    exact h i hi
section
variable {X : Cx}
theorem tsx_nil : TsX X [] dYes := by
  refine ⟨fun pins s σ H Q I ⟨ρ, M, P, S, A, t, m⟩ => pts_nil.run pins s σ H Q I (m _ M H t (Ext.refl H) A)⟩
theorem tsx_one {c : Expr} {t : DT} (h : TX X c t) : TsX X [c] t := pts_one h
theorem lc_in {K : PySem.W.Frag} {wi : DI} {g : DG} {tt : DT} {te : DE} {vs sl : List Nat} (hsl : ∀ i ∈ sl, i ∈ vs) : ∀ σ H Q, LE K (dLc wi g tt te vs) σ H Q → tLc (LI K wi) (LG K sl g) (LT K tt) (LE K te) vs σ H Q := fun σ H Q ⟨ρ, M, P, S, A, t, m⟩ =>
  ⟨ρ, M, _, S, A, t, fun Sr M1 J H1 t1 e1 a1 wk => fun D0 hD => by
    have S1 := (S.ext e1).wipe vs
    have w0 := t1 D0 (a1.free hD)
    refine ⟨fun i k H' => k = Sr.items.length - i ∧ i ≤ Sr.items.length ∧ ∃ M', Abs K H' M' ∧ Ext H1 H' ∧ lcGo D0 Sr.chk g tt te (wipeD ρ vs) (Sr.items.drop i) M' fun M2 => P (.ref D0) M2, ⟨Sr.items.length, by omega, Nat.zero_le _, _, a1.new hD .nil, Ext.new hD, w0⟩, ?_⟩
    rintro i k H' ⟨rfl, hi, M', A', e', w⟩
    by_cases hlt : i < Sr.items.length
    · have hd : Sr.items.drop i = Sr.items[i] :: Sr.items.drop (i + 1) := List.drop_eq_getElem_cons hlt
      rw [hd] at w
      refine .inr ⟨wk.goes i H' M' hlt e' A' w.1, fun H2 => ∃ M2, Abs K H2 M2 ∧ Ext H1 H2 ∧ lcGo D0 Sr.chk g tt te (wipeD ρ vs) (Sr.items.drop (i + 1)) M2 fun M2 => P (.ref D0) M2, fun H2 ⟨M2, b, c, d⟩ => ⟨Sr.items.length - (i + 1), by omega, rfl, hlt, M2, b, c, d⟩, fun x H2 y => ?_⟩
      obtain ⟨d, hd2, e2, A2, r2⟩ := wk.yields i H' M' x H2 hlt e' A' w.1 y
      have ed : d = Sr.items[i] := by
        rw [List.getElem?_eq_getElem hlt] at hd2
        exact (Option.some.inj hd2).symm
      subst ed
      refine ⟨_, wipeD ρ vs, M', _, r2, S1.ext (e'.trans e2), A2, w.2, fun ρ3 M3 σ3 H3 t3 e3 S3 A3 k3 => ⟨?_, ?_⟩⟩
      · have h1 : L2.wipe σ3 vs = L2.wipe (L2.wipe σ vs) vs := wipe_congr (fun i hi => k3.1 i fun z => hi (hsl i z)) k3.2
        have h2 : L2.wipe (L2.wipe σ vs) vs = L2.wipe σ vs := wipe_congr (fun i hi => L2.wipe_out hi) (L2.wipe_length σ vs)
        exact h1.trans h2
      · have E3 := (e'.trans e2).trans e3
        refine ⟨ρ3, M3, _, S3, A3, t3, fun b M4 H4 p4 e4 a4 => ?_⟩
        cases b with
        | false => exact iteF ⟨M4, a4, E3.trans e4, by simpa using p4⟩
        | true =>
          have p4 : te ρ3 M4 fun y M3 => withL M3 D0 fun acc => acc.length < sizeLine ∧ lcGo D0 Sr.chk g tt te (wipeD ρ vs) (Sr.items.drop (i + 1)) (mset M3 D0 (.lst (acc ++ [y]))) fun M2 => P (.ref D0) M2 := by simpa using p4
          refine iteT ⟨ρ3, M4, _, S3.ext e4, a4, p4, fun y M5 vy H5 p5 e5 a5 r5 => ?_⟩
          obtain ⟨acc, hM, hz, q⟩ := p5
          obtain ⟨av, hH, rs⟩ := a5.at hM
          exact ⟨av, hH, by rw [← rs.length]; exact hz, _, a5.set hH (rs.append (.one r5)), ((E3.trans e4).trans e5).trans (Ext.lst hH), q⟩
    · have hn : i = Sr.items.length := by omega
      subst hn
      rw [List.drop_length] at w
      exact .inl ⟨wk.stops H' M' e' A' w.1, m _ M' _ H' w.2 (e1.trans e') A' (.ref D0)⟩⟩
end
end DL
/-! Defs over plain data, repr, and a law's end. -/
namespace DL
open PySem PySem.Spec PyProof.Rows L2

/-! ### repr -/
def rRepr : DR := fun xs M P => match xs with
  | [x] => ∃ d, pdT M x = some d ∧ d.showable = true ∧ d.hasDict = false ∧ d.depth ≤ 60 ∧ d.shown.length ≤ sizeLine ∧ P (.str d.shown) M
  | _ => False
section
variable {X : Cx}
theorem repr_val {pins : List (Addr × Obj)} {σ : L2.St} {H : Hp} {s : Shared} {v : V} {u : Value} {d : PyData} {Q : VK} (I : L2.Inv X pins σ H s) (gd : X.A.guards = some []) (hu : X.A.units + 64 < cLine) (r : L2.RelV v u) (h : Dp X.K H v d)
    (h1 : d.showable = true) (h2 : d.hasDict = false) (h3 : d.depth ≤ 60) (h4 : d.shown.length ≤ sizeLine) (q : Q (.str d.shown) H) : wpAny (model X.prog X.w) X.A (call (.builtin "repr") [u]) (EP X pins σ Q) X.xe s := by
  have fin : ∀ (t : Tok) (h' : Heap) (tk : Nat), (∀ b o, s.heap.get? b = some o → h'.get? b = some o) → EP X pins σ Q (.str d.shown t) { s with heap := h', toks := tk } := fun t h' tk hk => ⟨.str d.shown, H, I.kept hk, ⟨t, rfl⟩, q⟩
  obtain ⟨as, rd⟩ := Dp.reads I d v u h r
  have onRef : ∀ a, u = .ref a → wpAny (model X.prog X.w) X.A (call (.builtin "repr") [u]) (EP X pins σ Q) X.xe s := fun a e => by
    subst e
    exact repr_of_reads' rd h1 (fun z => by rw [h2] at z; cases z) gd (by omega) (fun _ _ e => e) (fun h' t tk hk => fin t h' tk hk) h4
  cases h with
  | non => cases r; exact PySem.P.repr_of_none (fin _ _ _ fun _ _ e => e)
  | bl b => cases r; exact PySem.P.repr_of_bool (fin _ _ _ fun _ _ e => e)
  | int i =>
    obtain ⟨t, rfl⟩ := r
    exact PySem.P.repr_of_int (by simpa [PyData.showable] using h1) (fin _ _ _ fun _ _ e => e)
  | str x =>
    obtain ⟨t, rfl⟩ := r
    exact PySem.P.repr_of_str (fin _ _ _ fun _ _ e => e) h4
  | lst _ _ => exact onRef _ r
  | tup _ _ => exact onRef _ r
theorem b_repr (gd : X.A.guards = some []) (hu : X.A.units + 64 < cLine) : CX' X (.builtin "repr") rRepr := by
  intro pins s σ H vs us Q I r ⟨ds, M, P, rs, A, h, m⟩
  unfold rRepr at h
  split at h
  · obtain ⟨d, h1, h2, h3, h4, h5, h⟩ := h
    obtain ⟨v, rfl, r1⟩ := rs.in1
    obtain ⟨u, rfl, ru⟩ := vals1 r
    exact repr_val I gd hu ru (r1.dpT A h1) h2 h3 h4 h5 (m _ M _ H h (Ext.refl H) A (.str _))
  · exact h.elim
end

/-! ### defs -/
structure FnD (P : Program) (w : World) (K : PySem.W.Frag) (mg : Str → Option Value) (base : Heap) (k : Nat) (f : Addr) (fd : FuncData) (ps : List Str) (sem : DR) : Prop where
  len : ∀ ds M G, sem ds M G → ds.length = ps.length
  run : ∀ (A : Around) (outer : List Env) (s : Shared) (H : Hp) (args : Args) (us : List Value) (vs : List V) (Q : VK), A.guards = some [] → Room k A → Env0 P w K mg base A outer s H → BindsTo s fd args (ps.zip us) → Vals vs us → LC K sem vs H Q →
    codeAny (model P w) A (.call (.ref f) args) (CR CX0 outer P w H s Q E0) s
structure DefD (P : Program) (w : World) (K : PySem.W.Frag) (mg : Str → Option Value) (base : Heap) (k : Nat) (x : Str) (sem : DR) : Prop where
  ex : ∃ (f : Addr) (fd : FuncData) (ps : List Str), FnD P w K mg base k f fd ps sem ∧ mg x = some (.ref f) ∧ PySem.W.keepIn K (.ref f) = true ∧ Binds K fd ps []
theorem LC.len {K : PySem.W.Frag} {sem : DR} {n : Nat} (h : ∀ ds M G, sem ds M G → ds.length = n) {vs : List V} {H : Hp} {Q : VK} (q : LC K sem vs H Q) : vs.length = n := by
  obtain ⟨ds, M, P, r, A, t, m⟩ := q
  rw [← r.length]
  exact h ds M P t
section
variable {X : Cx} {k j : Nat} {sem : DR} {x : Str} {p pos : Pos} {e : Expr} {es : List Expr} {t : DA}
theorem ex_def (D : DefD X.prog X.w X.K X.mg X.base k x sem) (gd : X.A.guards = some []) (hr : Room j X.A) (hk : k ≤ j) (hg : Gl X x) (ha : AX X (e :: es) t) (hdb : (x == ("__debug__" : Str)) = false := by decide)
    (he : starEach (e :: es) X.env = (false, eval e X.env) :: starEach es X.env := by rfl) (hpl : (backTo pos (starEach es X.env)).any (·.1) = false := by rfl) : EX X (.Call (.Name x p) (e :: es) [] pos) (dCB sem t) := by
  obtain ⟨f, fd, ps, F, hm, kp, hb⟩ := D.ex
  refine ⟨fun pins s σ H Q I h => ?_⟩
  have h1 := dCB_in σ H Q h
  refine wpAny_Call_Name_kw (ld_glob I hg hm ?_ hdb)
  refine PySem.W.callWith_K (h₀ := X.base) I.ok.mod.kin kp (thn (ha.run pos pins s σ H _ I h1) fun us s1 ⟨vs, H1, I1, r, q⟩ => ⟨I1.kIn, ?_⟩) he hpl
  have hl : us.length = ps.length := by rw [← r.length]; exact LC.len F.len q
  have hb' := hb s1 us I1.kIn (by simpa using hl)
  rw [List.append_nil] at hb'
  refine wpAny_call (codeAny_mono (F.run X.A X.stack s1 H1 ⟨us, []⟩ us vs Q gd (hr.mono hk) I1.env0 hb' r q) fun res s' hq => ?_)
  cases res with
  | error ev => exact False.elim hq
  | ok fl =>
    cases fl with
    | ret u => exact I1.after hq
    | next => exact False.elim hq
    | brk => exact False.elim hq
    | cont => exact False.elim hq
end
def dstart (N : List Str) (ds : List D) : Rho := ds.map some ++ List.replicate (N.length - ds.length) none
theorem RepS.start {K : PySem.W.Frag} {H : Hp} {N : List Str} {ds : List D} {vs : List V} (r : Reps K H ds vs) : RepS K H (dstart N ds) (L2.start N vs) := by
  unfold dstart L2.start
  have hl := r.length
  refine ⟨by simp [hl], fun i d h => ?_⟩
  by_cases hi : i < ds.length
  · rw [List.getElem?_append_left (by simpa using hi), List.getElem?_map] at h
    cases e : ds[i]? with
    | none => rw [e] at h; cases h
    | some d' =>
      rw [e] at h
      cases h
      obtain ⟨v, h1, h2⟩ := r.get e
      exact ⟨v, by rw [List.getElem?_append_left (by simp; omega), List.getElem?_map, h1]; rfl, h2⟩
  · rw [List.getElem?_append_right (by simpa using hi), List.getElem?_replicate] at h
    split at h <;> cases h
section
variable {P : Program} {w : World} {K : PySem.W.Frag} {mg : Str → Option Value} {base : Heap}
/-- a def keeps what its body reads -/
theorem fn_body {x qual : Str} {st : Stmt} {f : Addr} {fd : FuncData} {N ps : List Str} {k : Nat} {sem : DR} {body : DS} (F : Fun K x qual st f fd) (S : FnScope N ps (defScope st)) (len : ∀ ds M G, sem ds M G → ds.length = ps.length)
    (hbody : ∀ (cdv : Value) (A : Around) (outer : List Env) (s : Shared) (H : Hp), A.guards = some [] → Room k (A.deeper (envOfC qual (defScope st) s.heap.objs.size f cdv)) → SsX (cxOf CX0 P w K mg base N qual (defScope st) f cdv A outer s H E0).nox (defBody st) body)
    (hsem : ∀ ds M G, sem ds M G → ∃ E : DEnds, body E (dstart N ds) M ∧ (∀ ρ M', E.nx ρ M' → G .non M' ∨ G .non (mcut M M')) ∧ (∀ d M', E.rt d M' → G d M' ∨ G d (mcut M M')) ∧ (∀ ρ M', ¬ E.bk ρ M') ∧ (∀ ρ M', ¬ E.ct ρ M')) :
    FnD P w K mg base (k + 1) f fd ps sem := by
  obtain ⟨oc, od, kV, doc, pm, an, cdv, ct, osl, rfl, lk, hcd⟩ := F.ex
  refine ⟨len, fun A outer s H args us vs Q gd hr e0 hb r hsp => ?_⟩
  have hl : vs.length = ps.length := LC.len len hsp
  have KX : K.In s.heap := e0.mod.kin.keeps fun b o e => (e0.bs b o e).1
  have lim : s.heap.NoLimit := e0.mod.nolimit.keeps fun b o e => (e0.bs b o e).1
  have hkind : ∀ y ∈ ps.zip us, (defScope st).names.lookup y.1 = some .local ∨ ((defScope st).names.lookup y.1 = some .cell ∧ ((cellsFrom (s.heap.objs.size + 1) (defScope st).names []).lookup y.1).isSome = true) := fun y hy => by
    have hm : y.1 ∈ ps := (List.of_mem_zip (show (y.1, y.2) ∈ ps.zip us from hy)).1
    exact (S.par y.1 hm).imp id fun q => ⟨q, PySem.W.cellsFrom_some _ _ _ (.inl q)⟩
  refine codeAny_call_function hr.depth (KX _ _ lk) rfl S.co S.gen rfl (PySem.W.codeRec_of KX hcd) (hb _ _ _ _ ?_)
  refine wpAny_newFunctionEnv_cells S.kind hkind fun env he s1 y => ?_
  subst he
  refine ⟨lim.keeps y.toInCall.keep, codeAny_func ?_⟩
  obtain ⟨ds, M, G, rs, Ab, hs, m⟩ := hsp
  obtain ⟨E, hE, c1, c2, c3, c4⟩ := hsem ds M G hs
  have I : L2.Inv (cxOf CX0 P w K mg base N qual (defScope st) f cdv A outer s H E0) [] (L2.start N vs) H s1 := inv_start S hr.hd e0 hl r y
  have go := (hbody cdv A outer s H gd (hr.deeper _)).run [] s1 (L2.start N vs) H { nx := fun _ H' => Q .non H', rt := Q } (I.wish _)
    ⟨dstart N ds, M, E, RepS.start rs, Ab, hE, ⟨fun ρ M' σ' H' q e S' A' => (c1 ρ M' q).elim (fun z => m _ M' _ H' z e A' .non) fun z => m _ _ _ H' z e A'.cut .non, fun ρ M' σ' H' q _ _ _ => (c3 ρ M' q).elim, fun ρ M' σ' H' q _ _ _ => (c4 ρ M' q).elim,
      fun d M' v H' q e A' rv => (c2 d M' q).elim (fun z => m _ M' _ H' z e A' rv) fun z => m _ _ _ H' z e A'.cut rv⟩⟩
  refine wpAny_mono go (fun fl s' hs' => ?_) fun ev s' hs' => hs'.elim
  have fin : ∀ {σ' : L2.St} {H' : Hp} {v : V} {u : Value}, L2.Inv (cxOf CX0 P w K mg base N qual (defScope st) f cdv A outer s H E0) [] σ' H' s' → L2.RelV v u → Q v H' → CE outer P w H s Q u s' :=
    fun {σ' H' v u} J rv q => ⟨v, H', J.os, J.bare, J.base, J.hok, rv, q⟩
  cases fl with
  | ret u =>
    obtain ⟨v, σ', H', J, rv, q⟩ := hs'
    exact fin J.unwish rv q
  | next =>
    obtain ⟨σ', H', J, q⟩ := hs'
    exact fin (v := V.non) (u := Value.none) J.unwish rfl q
  | brk =>
    obtain ⟨_, _, _, q⟩ := hs'
    exact False.elim q
  | cont =>
    obtain ⟨_, _, _, q⟩ := hs'
    exact False.elim q
end

/-! ### a law's end -/
theorem law_end {P : Program} {w : World} {K : PySem.W.Frag} {mg mb : Str → Option Value} {k : Nat} {fa a : Addr} {fd : FuncData} {x : Str} {sem : DR} {s₁ : Shared} {vs : List Value} {ns : List Int}
    (KX : K.In s₁.heap) (hns : s₁.heap.Ns mainGlobals mg) (hb : s₁.heap.Ns builtinsNs mb) (hbb : ∀ x : Str, x ≠ "__name__" → mb x = bootBuiltins x) (hlim : s₁.heap.NoLimit) (hg : s₁.gens = #[])
    (ha : s₁.heap.get? a = some { cls := .type "list", data := .seq vs.toArray }) (hi : IntsAre vs ns) (hl : ns.length ≤ sizeLine) (hr : Room k callerA)
    (F : ∀ base : Heap, K.In base → base.Ns mainGlobals mg → FnD P w K mg base k fa fd [x] sem) (hbind : ∀ (s : Shared) (u : Value), BindsTo s fd ⟨[u], []⟩ [(x, u)])
    (hsem : sem [.scr ns] mnil fun d _ => d = .bl true) :
    codeAny (model P w) callerA (.call (.ref fa) ⟨[.ref a], []⟩) (fun r s' => r = .ok (.ret (.bool true)) ∧ OldK s₁.heap s'.heap ∧ s'.os = s₁.os ∧ AllBare s'.gens) s₁ := by
  have rv := vals_ints hi
  have lenV := hi.length
  have main : ∀ H : Hp, Only H → SqS K H a ns → HOk P w H s₁.heap → (∀ b, H b ≠ none → b = a) → (H a ≠ none → K.lookup a = none) →
      codeAny (model P w) callerA (.call (.ref fa) ⟨[.ref a], []⟩) (fun r s' => r = .ok (.ret (.bool true)) ∧ OldK s₁.heap s'.heap ∧ s'.os = s₁.os ∧ AllBare s'.gens) s₁ := by
    intro H hO hS hok hA hK
    have up : ∀ {b : Addr} {o : Obj}, s₁.heap.get? b = some o → H b = none → (hidT s₁.heap H).get? b = some o := fun e n => hidT_get e n
    have free : ∀ {b : Addr} {o : Obj} {es : Array DictEntry} {ep : Nat}, s₁.heap.get? b = some o → o.data = .dict es ep → H b = none := fun {b o es ep} e d => by
      refine Classical.byContradiction fun q => ?_
      have e' : b = a := hA b q
      rw [e', ha] at e
      cases e
      have d' : Data.seq vs.toArray _ = Data.dict es ep := d
      cases d'
    have nsUp : ∀ {b : Addr} {m : Str → Option Value}, s₁.heap.Ns b m → (hidT s₁.heap H).Ns b m := fun {b m} ⟨o, es, ep, e, d, r⟩ => ⟨o, es, ep, up e (free e d), d, r⟩
    have hKb : K.In (hidT s₁.heap H) := fun b o e => up (KX b o e) (by
      refine Classical.byContradiction fun q => ?_
      have e' : b = a := hA b q
      rw [e'] at e q
      rw [hK q] at e
      cases e)
    have hM : Mod K mg (hidT s₁.heap H) := ⟨hKb, nsUp hns, ⟨mb, nsUp hb, hbb⟩, let ⟨mc, h1, h2⟩ := hlim; ⟨mc, nsUp h1, h2⟩⟩
    have e0 : Env0 P w K mg (hidT s₁.heap H) callerA [] s₁ H := ⟨rfl, hM, fun b o e => of_hidT e, Nat.le_of_eq (hidT_size _ _), trivial, fun b z => by simp [frs] at z, hok, .of_eq hg⟩
    refine codeAny_mono ((F _ hKb (nsUp hns)).run callerA [] s₁ H ⟨[.ref a], []⟩ [.ref a] [.ref a] (fun v _ => v = .bl true) rfl hr e0 (hbind s₁ (.ref a)) (.cons rfl .nil)
      ⟨[.scr ns], mnil, _, .cons (.scr hS) .nil, fun b o z => (nomatch (show (none : Option MO) = some o from z)), hsem, fun d M' v H' p e A r => ?_⟩) fun r s' h => ?_
    · subst p
      cases r
      rfl
    · cases r with
      | error e => exact False.elim h
      | ok fl =>
        cases fl with
        | next => exact False.elim h
        | brk => exact False.elim h
        | cont => exact False.elim h
        | ret u =>
          obtain ⟨v, H', os, bare, un, hok', r', q⟩ := h
          have q' : v = .bl true := q
          subst q'
          obtain rfl : u = Value.bool true := r'
          refine ⟨rfl, OldK.of_keep fun b o e => ?_, os, bare⟩
          rcases hO b with z | ⟨ob, xs, z⟩
          · exact un.keep b o e z (by simp [frs]) (by simp)
          · obtain ⟨e1, _⟩ := hok b _ z
            obtain ⟨e2, _⟩ := hok' b _ (un.frzs b ob _ z)
            rw [e] at e1
            cases e1
            exact e2
  cases hk : K.lookup a with
  | some o =>
    have e := KX a o hk
    rw [ha] at e
    cases e
    exact main (fun _ => none) (fun _ => .inl rfl) (.inr fun _ => .inr ⟨_, vs.toArray, _, hk, rfl, rfl, rfl, by rw [List.size_toArray, lenV]; exact hl, by simpa using rv⟩) (fun b u z => nomatch z) (fun b z => absurd rfl z) fun z => absurd rfl z
  | none =>
    let Hs : Hp := fun b => if b = a then some (.frz { cls := .type "list", data := .seq vs.toArray } (.lst (ns.map V.int))) else none
    have h1 : Hs a = some (.frz { cls := .type "list", data := .seq vs.toArray } (.lst (ns.map V.int))) := if_pos rfl
    have h2 : ∀ b, b ≠ a → Hs b = none := fun b hb => if_neg hb
    refine main Hs (fun b => ?_) (.inl ⟨_, h1⟩) (fun b u z => ?_) (fun b z => Classical.byContradiction fun hb => z (h2 b hb)) fun _ => hk
    · by_cases hb : b = a
      · subst hb; exact .inr ⟨_, _, h1⟩
      · exact .inl (h2 b hb)
    · by_cases hb : b = a
      · subst hb
        rw [h1] at z
        cases z
        exact ⟨ha, by rw [List.length_map]; exact hl, vs, _, rv, ha⟩
      · rw [h2 b hb] at z
        cases z
/-- the goal that k_head leaves -/
theorem law_walk {l : PySem.W.OpenLaw} {n k : Nat} {q : Program} {loose : List Str} {XP : (Str → Option Value) → Heap → Prop} {YP : World → Heap → Prop} {d : DefRec} {K : Params → PySem.W.Frag} {sem : DR} {x : Str}
    (hn : l.most = some n) (hn2 : n ≤ sizeLine) (hdf : d.params.defaults = []) (hr : Room k callerA) (hY : ∀ (w : World) (h : Heap), YP w h → (K w.params).In h)
    (F : ∀ (w : World) (mg : Str → Option Value) (fa : Addr) (h : Heap), (K w.params).In h → h.Ns mainGlobals mg → mg d.name = some (.ref fa) →
      ∃ fd : FuncData, (∀ (s : Shared) (u : Value), BindsTo s fd ⟨[u], []⟩ [(x, u)]) ∧ ∀ base : Heap, (K w.params).In base → base.Ns mainGlobals mg → FnD l.prog w (K w.params) mg base k fa fd [x] sem)
    (hsem : ∀ ns : List Int, ns.length ≤ n → sem [.scr ns] mnil fun d _ => d = .bl true) : PySem.W.WalkO q loose XP YP l.row.toRowW d [] (fun f vs => PySem.call f vs) := by
  refine Att.attach_call hn hdf fun w s₀ s₁ mg mb fa o pm cd doc a vs ns G Y ho hd hcd hmg hobj hints hlen hg => ?_
  have KX := hY w _ Y
  obtain ⟨fd, hb, hF⟩ := F w mg fa _ KX G.T.g hmg
  exact law_end KX G.T.g G.T.b G.T.builtins G.T.nolimit hg hobj hints (Nat.le_trans hlen hn2) hr hF hb (hsem ns hlen)
end DL
/-! Forms that the printing program uses. -/
namespace DL
open PySem PySem.Spec PyProof.Rows L2
section
variable {X : Cx} {a b c e : Expr} {ta tb tc : DE} {pos : Pos}
theorem tx_chain {op op' : CmpOp} {r r' : DR2} (ho : OX X (compareOp op) r) (ho' : OX X (compareOp op') r') (ha : EX X a ta) (hb : EX X b tb) (hc : EX X c tc) (hm : lastMarks [op, op'] [b, c] = false := by with_unfolding_all rfl) : TX X (.Compare a [op, op'] [b, c] pos) (dTest (dChain r r' ta tb tc)) :=
  PT.of (pt_chain ho ho' ha hb hc hm) fun σ H Q h => dChain_in σ H _ (LE_test h)
theorem ex_chain2 {op op' : CmpOp} {r r' : DR2} (ho : OX X (compareOp op) r) (ho' : OX X (compareOp op') r') (ha : EX X a ta) (hb : EX X b tb) (hc : EX X c tc) (hm : lastMarks [op, op'] [b, c] = false := by with_unfolding_all rfl) : EX X (.Compare a [op, op'] [b, c] pos) (dChain r r' ta tb tc) :=
  PE.of (pe_chain ho ho' ha hb hc hm) dChain_in
theorem ex_lc {wi : DI} {g : DG} {tt : DT} {te : DE} {vs sl : List Nat} (h : PE X e (tLc (LI X.K wi) (LG X.K sl g) (LT X.K tt) (LE X.K te) vs)) (hsl : ∀ i ∈ sl, i ∈ vs) : EX X e (dLc wi g tt te vs) := PE.of h (lc_in hsl)
/-- only what stood ahead of it is kept in the store -/
def dPure (t : DE) : DE := fun ρ M P => t ρ M fun d M' => P d (mcut M M')
theorem ex_pure {t : DE} (h : EX X e t) : EX X e (dPure t) := PE.of h fun σ H Q ⟨ρ, M, P, S, A, t, m⟩ => ⟨ρ, M, _, S, A, t, fun d M' v H' p e a r => m d _ v H' p e a.cut r⟩
/-- name = [..] stored from within, the list finished behind it -/
theorem sx_lcFz {st : Stmt} {i : Nat} {wi : DI} {g : DG} {tt : DT} {te : DE} {vs sl : List Nat} (h : PS X st (tAsg (tLc (LI X.K wi) (LG X.K sl g) (LT X.K tt) (LE X.K te) vs) (gName i))) (hsl : ∀ i ∈ sl, i ∈ vs) : SX X st (dSet i (dFz (dLc wi g tt te vs))) := by
  refine ⟨fun pins s σ H Z I ⟨ρ, M, E, S, A, t, m⟩ => ?_⟩
  let G : D → Mem → Prop := fun d M1 => E.nx (ρ.set i (some d)) M1
  have t0 : dLc wi g tt te vs ρ M (fzK G) := t
  have t' : LE X.K (dLc wi g tt te vs) σ H fun v H1 => ∃ d M1, Ext H H1 ∧ Abs X.K H1 M1 ∧ Rep X.K H1 d v ∧ fzK G d M1 := ⟨ρ, M, _, S, A, t0, fun d M1 v H1 p e a r => ⟨d, M1, e, a, r, p⟩⟩
  refine thn (h.run pins s σ H { nx := fun σ' H1 => ∃ v d M1, σ' = σ.set i (some v) ∧ Ext H H1 ∧ Abs X.K H1 M1 ∧ Rep X.K H1 d v ∧ fzK G d M1, rt := fun _ _ => False } I ?_) fun f s1 q => ?_
  · have := lc_in hsl σ H _ t'
    exact lc_in hsl σ H _ (by
      obtain ⟨ρ2, M2, P2, b1, b2, b3, b4⟩ := t'
      exact ⟨ρ2, M2, P2, b1, b2, b3, fun d M' v H' p e a r => let ⟨d', M1, h1, h2, h3, h4⟩ := b4 d M' v H' p e a r; ⟨v, d', M1, rfl, h1, h2, h3, h4⟩⟩)
  · cases f with
    | next =>
      obtain ⟨σ', H1, I1, v, d, M1, rfl, e1, a1, r1, q⟩ := q
      obtain ⟨d', M', H', I', e', a', r', p⟩ := fzK_run I1 a1 r1 q
      exact ⟨_, H', I', m.nx _ M' _ H' p (e1.trans e') ((S.ext (e1.trans e')).set r' i) a'⟩
    | ret u => obtain ⟨_, _, _, _, _, z⟩ := q; exact z.elim
    | brk => obtain ⟨_, _, _, z⟩ := q; exact z.elim
    | cont => obtain ⟨_, _, _, z⟩ := q; exact z.elim
/-- the same, the list left under work -/
theorem sx_lcSet {st : Stmt} {i : Nat} {wi : DI} {g : DG} {tt : DT} {te : DE} {vs sl : List Nat} (h : PS X st (tAsg (tLc (LI X.K wi) (LG X.K sl g) (LT X.K tt) (LE X.K te) vs) (gName i))) (hsl : ∀ i ∈ sl, i ∈ vs) : SX X st (dSet i (dLc wi g tt te vs)) :=
  sx_set i (PS.of h fun σ H Z q => lc_in hsl σ H _ q)
end
section
variable {X : Cx} {e e2 : Expr} {te ta : DE} {x : Str} {p pos : Pos}
theorem ex_b1 {id : String} {r : DR} (hc : CX' X (.builtin id) r) (hg : Gl X x) (hm : X.mg x = none) (hv : bootBuiltins x = some (.builtin id)) (he : EX X e te) (hn : x ≠ "__name__" := by decide) (hdb : (x == ("__debug__" : Str)) = false := by decide)
    (h0 : starEach [e] X.env = (false, eval e X.env) :: starEach [] X.env := by rfl) (hpl : (backTo pos (starEach [] X.env)).any (·.1) = false := by rfl) : EX X (.Call (.Name x p) [e] [] pos) (dCB r (dCons te dNil)) :=
  PE.of (pe_callB hc hg hm hv (ax_cons he ax_nil h0) hn hdb (he := h0) (hpl := hpl)) dCB_in
theorem ex_b2 {id : String} {r : DR} (hc : CX' X (.builtin id) r) (hg : Gl X x) (hm : X.mg x = none) (hv : bootBuiltins x = some (.builtin id)) (he : EX X e te) (he2 : EX X e2 ta) (hn : x ≠ "__name__" := by decide) (hdb : (x == ("__debug__" : Str)) = false := by decide)
    (h0 : starEach [e, e2] X.env = (false, eval e X.env) :: starEach [e2] X.env := by rfl) (h1 : starEach [e2] X.env = (false, eval e2 X.env) :: starEach [] X.env := by rfl) (hpl : (backTo pos (starEach [e2] X.env)).any (·.1) = false := by rfl) : EX X (.Call (.Name x p) [e, e2] [] pos) (dCB r (dCons te (dCons ta dNil))) :=
  PE.of (pe_callB hc hg hm hv (ax_cons he (ax_cons he2 ax_nil h1) h0) hn hdb (he := h0) (hpl := hpl)) dCB_in
theorem ex_t1 {id : String} {r : DR} (hc : CX' X (.type id) r) (hg : Gl X x) (hm : X.mg x = none) (hv : bootBuiltins x = some (.type id)) (he : EX X e te) (hn : x ≠ "__name__" := by decide) (hdb : (x == ("__debug__" : Str)) = false := by decide)
    (h0 : starEach [e] X.env = (false, eval e X.env) :: starEach [] X.env := by rfl) (hpl : (backTo pos (starEach [] X.env)).any (·.1) = false := by rfl) : EX X (.Call (.Name x p) [e] [] pos) (dCB r (dCons te dNil)) :=
  PE.of (pe_callTy hc hg hm hv (ax_cons he ax_nil h0) hn hdb (he := h0) (hpl := hpl)) dCB_in
theorem ex_isi1 {T : String} (hg : Gl X "isinstance") (hm : X.mg "isinstance" = none) (ha : EX X e te) (hb : PE X e2 (tC (.ty T))) (h0 : starEach [e, e2] X.env = (false, eval e X.env) :: starEach [e2] X.env := by rfl) (h1 : starEach [e2] X.env = (false, eval e2 X.env) :: starEach [] X.env := by rfl)
    (hpl : (backTo pos (starEach [e2] X.env)).any (·.1) = false := by rfl) : EX X (.Call (.Name "isinstance" p) [e, e2] [] pos) (dIsi T te) :=
  ex_isi hg hm ha hb (fun c a => pe_callB c hg hm (by decide +kernel) a (he := h0) (hpl := hpl)) h0 h1
end
theorem pe_gk {X : Cx} {x : Str} {v : V} {pos : Pos} (hg : Gl X x) (h : ∃ u, X.mg x = some u ∧ L2.RelV v u) (hd : (x == ("__debug__" : Str)) = false := by decide) : PE X (.Name x pos) (tC v) := let ⟨_, hm, r⟩ := h; pe_glob hg hm r hd
theorem fz_new {M : Mem} {P : D → Mem → Prop} {xs : List D} : (∀ p, M p = none → fzK P (.ref p) (mset M p (.lst xs))) ↔ P (.lst xs) M := by
  have key : ∀ p, M p = none → (fzK P (.ref p) (mset M p (.lst xs)) ↔ P (.lst xs) M) := fun p hp => by
    unfold fzK
    simp only [mset_eq, mdel_new hp]
  constructor
  · intro h
    obtain ⟨p, hp⟩ := M.fresh
    exact (key p hp).mp (h p hp)
  · intro h p hp
    exact (key p hp).mpr h
end DL
/-! Reasoning over the readings: plain Lean. -/
namespace DL
open PySem PySem.Spec PyProof.Rows L2

theorem dVar_z (d : D) (r : Rho) (M : Mem) (P : D → Mem → Prop) : dVar 0 (some d :: r) M P = P d M := rfl
theorem dVar_s (i : Nat) (x : Option D) (r : Rho) (M : Mem) (P : D → Mem → Prop) : dVar (i + 1) (x :: r) M P = dVar i r M P := rfl
theorem kitB_int (T : String) (b : Bool) (h : kitB "int" T = some b) : kitB "int" T = some b := h
theorem k_ii : kitB "int" "int" = some true := by decide +kernel
theorem k_ib : kitB "int" "bool" = some false := by decide +kernel
theorem k_is' : kitB "int" "str" = some false := by decide +kernel
theorem k_it : kitB "int" "tuple" = some false := by decide +kernel
theorem k_bi : kitB "bool" "int" = some true := by decide +kernel
theorem k_bb : kitB "bool" "bool" = some true := by decide +kernel
theorem k_bs : kitB "bool" "str" = some false := by decide +kernel
theorem k_bt : kitB "bool" "tuple" = some false := by decide +kernel
theorem k_si : kitB "str" "int" = some false := by decide +kernel
theorem k_sb : kitB "str" "bool" = some false := by decide +kernel
theorem k_ss : kitB "str" "str" = some true := by decide +kernel
theorem k_st : kitB "str" "tuple" = some false := by decide +kernel
theorem k_ti : kitB "tuple" "int" = some false := by decide +kernel
theorem k_tb : kitB "tuple" "bool" = some false := by decide +kernel
theorem k_ts : kitB "tuple" "str" = some false := by decide +kernel
theorem k_tt : kitB "tuple" "tuple" = some true := by decide +kernel
theorem k_li : kitB "list" "int" = some false := by decide +kernel
theorem k_lb : kitB "list" "bool" = some false := by decide +kernel
theorem k_ls : kitB "list" "str" = some false := by decide +kernel
theorem k_lt : kitB "list" "tuple" = some false := by decide +kernel
theorem k_ni : kitB "NoneType" "int" = some false := by decide +kernel
theorem k_nb : kitB "NoneType" "bool" = some false := by decide +kernel
theorem k_ns : kitB "NoneType" "str" = some false := by decide +kernel
theorem k_nt : kitB "NoneType" "tuple" = some false := by decide +kernel
/-- what is asked of a value of a known kind -/
theorem isi_eq {T t : String} {b : Bool} {ta : DE} {ρ : Rho} {M : Mem} {P : D → Mem → Prop} {x : D} (h : tyOf M x = some t) (hk : kitB t T = some b) : (∃ t b, tyOf M x = some t ∧ kitB t T = some b ∧ P (.bl b) M) ↔ P (.bl b) M := by
  constructor
  · rintro ⟨t', b', h1, h2, h3⟩
    rw [h] at h1
    cases h1
    rw [hk] at h2
    cases h2
    exact h3
  · intro q
    exact ⟨t, b, h, hk, q⟩

/-! ### walks -/
theorem forGo_ind {α : Type} {enc : α → D} {chk : Mem → Prop} {g : DG} {tb : DS} {E : DEnds} (I : List α → Rho → Mem → Prop) :
    ∀ (post pre : List α) (ρ : Rho) (M : Mem) (hchk : ∀ q ρ M, I q ρ M → chk M)
      (hstep : ∀ q x r ρ M, pre ++ post = q ++ x :: r → I q ρ M → ∀ N : Rho → Mem → Prop, (∀ ρ M, I (q ++ [x]) ρ M → N ρ M) → g (enc x) ρ M fun ρ' M' => tb { E with nx := N, ct := N, bk := E.nx } ρ' M')
      (hend : ∀ ρ M, I (pre ++ post) ρ M → E.nx ρ M) (h0 : I pre ρ M), forGo chk g tb E (post.map enc) ρ M := by
  intro post
  induction post with
  | nil =>
    intro pre ρ M hchk hstep hend h0
    exact ⟨hchk pre ρ M h0, hend ρ M (by rw [List.append_nil]; exact h0)⟩
  | cons x r ih =>
    intro pre ρ M hchk hstep hend h0
    refine ⟨hchk pre ρ M h0, hstep pre x r ρ M rfl h0 _ fun ρ2 M2 h2 => ?_⟩
    have e : pre ++ x :: r = (pre ++ [x]) ++ r := by simp
    exact ih (pre ++ [x]) ρ2 M2 hchk (fun q y t ρ M e' => hstep q y t ρ M (e.trans e')) (fun ρ M h => hend ρ M (by rw [e]; exact h)) h2
/-- a loop over coded items, by what holds behind each part of them -/
theorem for_all {α : Type} {enc : α → D} {chk : Mem → Prop} {g : DG} {tb : DS} {E : DEnds} {L : List α} {ρ : Rho} {M : Mem} (I : List α → Rho → Mem → Prop) (h0 : I [] ρ M) (hchk : ∀ q ρ M, I q ρ M → chk M)
    (hstep : ∀ q x r ρ M, L = q ++ x :: r → I q ρ M → ∀ N : Rho → Mem → Prop, (∀ ρ M, I (q ++ [x]) ρ M → N ρ M) → g (enc x) ρ M fun ρ' M' => tb { E with nx := N, ct := N, bk := E.nx } ρ' M')
    (hend : ∀ ρ M, I L ρ M → E.nx ρ M) : forGo chk g tb E (L.map enc) ρ M := forGo_ind I L [] ρ M hchk hstep hend h0
theorem lcGo_ind {α : Type} {enc : α → D} {p : Addr} {chk : Mem → Prop} {g : DG} {tt : DT} {te : DE} {ρ0 : Rho} {Kn : Mem → Prop} {keep : α → Bool} {f : α → D} {M0 : Mem}
    (hchk : ∀ acc, chk (mset M0 p (.lst acc))) :
    ∀ (post : List α) (acc : List D) (hz : acc.length + post.length ≤ sizeLine)
      (hstep : ∀ x, x ∈ post → ∀ acc (Q : D → Mem → Prop) (R : Mem → Prop), (keep x = true → Q (f x) (mset M0 p (.lst acc))) → (keep x = false → R (mset M0 p (.lst acc))) →
        g (enc x) ρ0 (mset M0 p (.lst acc)) fun ρ' M' => tt ρ' M' fun b M'' => if b = true then te ρ' M'' Q else R M'')
      (hend : Kn (mset M0 p (.lst (acc ++ (post.filter keep).map f)))), lcGo p chk g tt te ρ0 (post.map enc) (mset M0 p (.lst acc)) Kn := by
  intro post
  induction post with
  | nil =>
    intro acc hz hstep hend
    exact ⟨hchk acc, by simpa using hend⟩
  | cons x r ih =>
    intro acc hz hstep hend
    simp only [List.length_cons] at hz
    refine ⟨hchk acc, hstep x List.mem_cons_self acc _ _ (fun hk => ⟨acc, mset_eq _ _ _, by omega, ?_⟩) fun hk => ?_⟩
    · rw [mset_mset]
      refine ih (acc ++ [f x]) (by simp; omega) (fun y hy => hstep y (List.mem_cons_of_mem _ hy)) ?_
      rw [List.filter_cons_of_pos hk] at hend
      simpa using hend
    · refine ih acc (by omega) (fun y hy => hstep y (List.mem_cons_of_mem _ hy)) ?_
      rw [List.filter_cons_of_neg (by simp [hk])] at hend
      exact hend
/-- a finished comprehension of coded items -/
theorem lc_fz {α : Type} {enc : α → D} {chk : Mem → Prop} {g : DG} {tt : DT} {te : DE} {ρ0 : Rho} {L : List α} {M : Mem} {P : D → Mem → Prop} (keep : α → Bool) (f : α → D) (hz : L.length ≤ sizeLine) (hchk : ∀ p, M p = none → ∀ acc, chk (mset M p (.lst acc)))
    (hstep : ∀ x, x ∈ L → ∀ (M : Mem) (Q : D → Mem → Prop) (R : Mem → Prop), (keep x = true → Q (f x) M) → (keep x = false → R M) → g (enc x) ρ0 M fun ρ' M' => tt ρ' M' fun b M'' => if b = true then te ρ' M'' Q else R M'')
    (h : P (.lst ((L.filter keep).map f)) M) : ∀ p, M p = none → lcGo p chk g tt te ρ0 (L.map enc) (mset M p (.lst [])) fun M2 => fzK P (.ref p) M2 := fun p hp => by
  refine lcGo_ind (M0 := M) (p := p) (hchk p hp) L [] (by simpa using hz) (fun x hx acc Q R => hstep x hx _ Q R) ?_
  rw [List.nil_append]
  unfold fzK
  simp only [mset_eq, mdel_new hp]
  exact h
/-- .. each item kept -/
theorem lc_map {α : Type} {enc : α → D} {chk : Mem → Prop} {g : DG} {te : DE} {ρ0 : Rho} {L : List α} {M : Mem} {P : D → Mem → Prop} (f : α → D) (hz : L.length ≤ sizeLine) (hchk : ∀ p, M p = none → ∀ acc, chk (mset M p (.lst acc)))
    (hstep : ∀ x, x ∈ L → ∀ (M : Mem) (Q : D → Mem → Prop), Q (f x) M → g (enc x) ρ0 M fun ρ' M' => te ρ' M' Q)
    (h : P (.lst (L.map f)) M) : ∀ p, M p = none → lcGo p chk g dYes te ρ0 (L.map enc) (mset M p (.lst [])) fun M2 => fzK P (.ref p) M2 :=
  lc_fz (fun _ => true) f hz hchk (fun x hx M Q R h1 _ => by
    have := hstep x hx M Q (h1 rfl)
    show g (enc x) ρ0 M fun ρ' M' => if true = true then te ρ' M' Q else R M'
    simp only [if_true]
    exact this) (by
      have e : L.filter (fun _ => true) = L := List.filter_eq_self.mpr fun _ _ => rfl
      rw [e]
      exact h)
theorem rangeD_map (lo : Int) (n : Nat) : rangeD lo n 1 = (List.range n).map fun (k : Nat) => .int (lo + k) := by
  unfold rangeD
  simp only [Int.mul_one]
theorem atI_0 {α : Type} (a : α) (r : List α) : atI (a :: r) 0 = some a := by
  unfold atI ixN
  rw [if_pos (by decide), if_pos (by simp only [List.length_cons]; omega)]
  rfl
theorem atI_1 {α : Type} (a b : α) (r : List α) : atI (a :: b :: r) 1 = some b := by
  unfold atI ixN
  rw [if_pos (by decide), if_pos (by simp only [List.length_cons]; omega)]
  rfl
theorem atI_2 {α : Type} (a b c : α) (r : List α) : atI (a :: b :: c :: r) 2 = some c := by
  unfold atI ixN
  rw [if_pos (by decide), if_pos (by simp only [List.length_cons]; omega)]
  rfl
theorem atI_3 {α : Type} (a b c d : α) (r : List α) : atI (a :: b :: c :: d :: r) 3 = some d := by
  unfold atI ixN
  rw [if_pos (by decide), if_pos (by simp only [List.length_cons]; omega)]
  rfl
theorem atI_4 {α : Type} (a b c d e : α) (r : List α) : atI (a :: b :: c :: d :: e :: r) 4 = some e := by
  unfold atI ixN
  rw [if_pos (by decide), if_pos (by simp only [List.length_cons]; omega)]
  rfl
theorem atI_n {α : Type} {xs : List α} {i : Int} (h0 : 0 ≤ i) (h1 : i.toNat < xs.length) : atI xs i = some xs[i.toNat] := by
  unfold atI ixN
  rw [if_pos h0, if_pos (by omega)]
  simp [h1]
theorem ixN_5 (k : Int) (h0 : 0 ≤ k) (h1 : k < 5) : ixN 5 k = some k.toNat := by
  unfold ixN
  rw [if_pos h0, if_pos (by omega)]
theorem at_iff {M : Mem} {x : D} {i : Int} {P : D → Mem → Prop} {xs : List D} {d : D} (h : sqOf M x = some xs) (h2 : atI xs i = some d) : rAt x (.int i) M P ↔ P d M := by
  unfold rAt
  constructor
  · rintro ⟨ys, e, h3, h4, q⟩
    rw [h] at h3; cases h3
    rw [h2] at h4; cases h4
    exact q
  · exact fun q => ⟨xs, d, h, h2, q⟩
theorem at_mk {M : Mem} {x : D} {i : Int} {P : D → Mem → Prop} {xs : List D} {d : D} (h : sqOf M x = some xs) (h2 : atI xs i = some d) (q : P d M) : rAt x (.int i) M P := ⟨xs, d, h, h2, q⟩
theorem shaped_int (i : Int) : SeqAt.shaped (.int i) = true := by simp [SeqAt.shaped, PyData.canLay0, PyData.depth]
theorem rEq_int {M : Mem} {i j : Int} {P : D → Mem → Prop} : rEq (.int i) (.int j) M P ↔ P (.bl (decide (i = j))) M := by
  have e : PyData.eqv (.int i) (.int j) = decide (i = j) := by
    show (i == j) = _
    exact Bool.beq_eq_decide_eq i j
  constructor
  · rintro (⟨d, d2, h1, h2, _, _, q⟩ | ⟨a, b, h, _⟩)
    · cases h1
      cases h2
      rw [e] at q
      exact q
    · cases h
  · intro q
    exact .inl ⟨.int i, .int j, rfl, rfl, shaped_int i, shaped_int j, by rw [e]; exact q⟩
theorem rNe_int {M : Mem} {i j : Int} {P : D → Mem → Prop} : rNe (.int i) (.int j) M P ↔ P (.bl (!decide (i = j))) M := by
  have e : PyData.eqv (.int i) (.int j) = decide (i = j) := by
    show (i == j) = _
    exact Bool.beq_eq_decide_eq i j
  constructor
  · rintro (⟨d, d2, h1, h2, _, _, q⟩ | ⟨a, b, h, _⟩)
    · cases h1
      cases h2
      rw [e] at q
      exact q
    · cases h
  · intro q
    exact .inl ⟨.int i, .int j, rfl, rfl, shaped_int i, shaped_int j, by rw [e]; exact q⟩
theorem sq_ref {M : Mem} {a : Addr} {xs : List D} (h : M a = some (.lst xs)) : sqOf M (.ref a) = some xs := by simp only [sqOf, lsOf, h]
theorem sq_tup {M : Mem} {xs : List D} : sqOf M (.tup xs) = some xs := rfl
theorem sq_lst {M : Mem} {xs : List D} : sqOf M (.lst xs) = some xs := rfl
theorem withL_iff {M : Mem} {a : Addr} {xs : List D} {k : List D → Prop} (h : M a = some (.lst xs)) : withL M a k ↔ k xs := by
  unfold withL
  rw [h]
  simp
end DL
/-! Steps at the head of a reading. -/
namespace DL
open PySem PySem.Spec PyProof.Rows L2
/-- what a value that is a bool goes on to -/
def bK (f : Bool → Mem → Prop) : D → Mem → Prop
  | .bl k, M => f k M
  | _, _ => False
/-- what stands behind an item's new value -/
def stK (v : D) (nx : Rho → Mem → Prop) (ρ : Rho) : D → D → Mem → Prop
  | .ref a, .int k, M => withL M a fun xs => ∃ j, ixN xs.length k = some j ∧ nx ρ (mset M a (.lst (xs.set j v)))
  | _, _, _ => False
/-- .. and a choice -/
def cK (b : Bool) (A B : Prop) : Prop := if b = true then A else B
section
variable {ρ : Rho} {M : Mem} {t u : DS} {nx bk ct : Rho → Mem → Prop} {rt P : D → Mem → Prop} {PB : Bool → Mem → Prop} {te ta tb tc to ti : DE} {c c' : DT} {i j k : Nat} {d : D} {x y : D} {xs ys : List D} {r r' : DR2} {a b p : Addr} {m n l : Int} {PA : List D → Mem → Prop} {PR : Rho → Mem → Prop}
theorem i_seq (h : t ⟨u ⟨nx, rt, bk, ct⟩, rt, bk, ct⟩ ρ M) : dSeq t u ⟨nx, rt, bk, ct⟩ ρ M := h
theorem i_next (h : nx ρ M) : dNext ⟨nx, rt, bk, ct⟩ ρ M := h
theorem i_brk (h : bk ρ M) : dBreak ⟨nx, rt, bk, ct⟩ ρ M := h
theorem i_cont (h : ct ρ M) : dCont ⟨nx, rt, bk, ct⟩ ρ M := h
theorem i_expr (h : te ρ M fun _ M1 => nx ρ M1) : dExpr te ⟨nx, rt, bk, ct⟩ ρ M := h
theorem i_ret (h : te ρ M rt) : dRet te ⟨nx, rt, bk, ct⟩ ρ M := h
theorem i_retN (h : rt .non M) : dRetN ⟨nx, rt, bk, ct⟩ ρ M := h
theorem i_ifS (h : c ρ M fun b M1 => cK b (t ⟨nx, rt, bk, ct⟩ ρ M1) (u ⟨nx, rt, bk, ct⟩ ρ M1)) : dIfS c t u ⟨nx, rt, bk, ct⟩ ρ M := h
/-- an if whose arms meet again -/
theorem i_ifJ (N : Rho → Mem → Prop) (h : c ρ M fun b M1 => cK b (t ⟨N, rt, bk, ct⟩ ρ M1) (u ⟨N, rt, bk, ct⟩ ρ M1)) (g : (c ρ M fun b M1 => cK b (t ⟨N, rt, bk, ct⟩ ρ M1) (u ⟨N, rt, bk, ct⟩ ρ M1)) → c ρ M fun b M1 => cK b (t ⟨nx, rt, bk, ct⟩ ρ M1) (u ⟨nx, rt, bk, ct⟩ ρ M1)) : dIfS c t u ⟨nx, rt, bk, ct⟩ ρ M := g h
theorem i_set (h : te ρ M fun d M1 => nx (ρ.set i (some d)) M1) : dSet i te ⟨nx, rt, bk, ct⟩ ρ M := h
theorem i_asg {g : DG} (h : te ρ M fun d M1 => g d ρ M1 nx) : dAsg te g ⟨nx, rt, bk, ct⟩ ρ M := h
theorem i_store (h : te ρ M fun v M1 => to ρ M1 fun o M2 => ti ρ M2 fun i M3 => stK v nx ρ o i M3) : dStore to ti te ⟨nx, rt, bk, ct⟩ ρ M := by
  refine cast ?_ h
  unfold dStore
  congr 1
  funext v M1
  congr 1
  funext o M2
  congr 1
  funext i M3
  cases o <;> cases i <;> rfl
theorem i_stK {v : D} {k : Int} {j : Nat} (hM : M a = some (.lst xs)) (hj : ixN xs.length k = some j) (h : nx ρ (mset M a (.lst (xs.set j v)))) : stK v nx ρ (.ref a) (.int k) M := ⟨xs, hM, j, hj, h⟩
def p2K (i j : Nat) (ρ : Rho) (nx : Rho → Mem → Prop) : List D → Mem → Prop
  | [v, w], M => nx ((ρ.set i (some v)).set j (some w)) M
  | _, _ => False
def p3K (i j k : Nat) (ρ : Rho) (nx : Rho → Mem → Prop) : List D → Mem → Prop
  | [u, v, w], M => nx (((ρ.set i (some u)).set j (some v)).set k (some w)) M
  | _, _ => False
theorem i_p2K {v w : D} (h : nx ((ρ.set i (some v)).set j (some w)) M) : p2K i j ρ nx [v, w] M := h
theorem i_p3K {u v w : D} (h : nx (((ρ.set i (some u)).set j (some v)).set k (some w)) M) : p3K i j k ρ nx [u, v, w] M := h
theorem i_par2 {ta : DA} (h : ta ρ M (p2K i j ρ nx)) : dPar2 i j ta ⟨nx, rt, bk, ct⟩ ρ M := by
  refine cast ?_ h
  unfold dPar2
  congr 1
  funext ds M1
  unfold p2K
  split <;> rename_i h1
  · simp only
  · split
    · exact (h1 _ _ rfl).elim
    · rfl
theorem i_par3 {ta : DA} (h : ta ρ M (p3K i j k ρ nx)) : dPar3 i j k ta ⟨nx, rt, bk, ct⟩ ρ M := by
  refine cast ?_ h
  unfold dPar3
  congr 1
  funext ds M1
  unfold p3K
  split <;> rename_i h1
  · simp only
  · split
    · exact (h1 _ _ _ rfl).elim
    · rfl
def pnK (gs : DGs) (ρ : Rho) (nx : Rho → Mem → Prop) (ds : List D) (M : Mem) : Prop := ds.length ≤ sizeLine ∧ gs ds ρ M nx
theorem i_parN {ta : DA} {gs : DGs} (h : ta ρ M (pnK gs ρ nx)) : dParN ta gs ⟨nx, rt, bk, ct⟩ ρ M := h
theorem i_pnK {gs : DGs} (hz : xs.length ≤ sizeLine) (h : gs xs ρ M nx) : pnK gs ρ nx xs M := ⟨hz, h⟩
theorem i_for {wi : DI} {g : DG} (h : wi ρ M fun S M1 => forGo S.chk g t ⟨nx, rt, bk, ct⟩ S.items ρ M1) : dFor wi g t ⟨nx, rt, bk, ct⟩ ρ M := h
/- expressions -/
theorem i_var (e : ρ[i]? = some (some d)) (h : P d M) : dVar i ρ M P := by
  unfold dVar
  rw [e]
  exact h
theorem i_c (h : P d M) : dC d ρ M P := h
theorem i_op (h : ta ρ M fun x M1 => tb ρ M1 fun y M2 => r x y M2 P) : dOp r ta tb ρ M P := h
theorem i_bK {f : Bool → Mem → Prop} {k : Bool} (h : f k M) : bK f (.bl k) M := h
theorem bK_eq (f : Bool → Mem → Prop) : bK f = fun x M => match x with
  | .bl k => f k M
  | _ => False := by
  funext x M
  cases x <;> rfl
theorem i_test (h : te ρ M (bK PB)) : dTest te ρ M PB := by
  refine cast ?_ h
  unfold dTest
  rw [bK_eq]
  try rfl
theorem i_chain (h : ta ρ M fun x M1 => tb ρ M1 fun y M2 => r x y M2 (bK fun k M3 => cK k (tc ρ M3 fun w M4 => r' y w M4 P) (P (.bl false) M3))) : dChain r r' ta tb tc ρ M P := by
  refine cast ?_ h
  unfold dChain
  simp only [bK_eq, cK]
  try rfl
theorem i_and (h : c ρ M fun k M1 => cK k (c' ρ M1 PB) (PB false M1)) : dAnd c c' ρ M PB := h
theorem i_or (h : c ρ M fun k M1 => cK k (PB true M1) (c' ρ M1 PB)) : dOr c c' ρ M PB := h
theorem i_not (h : c ρ M fun k M1 => PB (!k) M1) : dNot c ρ M PB := h
theorem i_andV (h : ta ρ M (bK fun k M1 => cK k (tb ρ M1 P) (P (.bl false) M1))) : dAndV ta tb ρ M P := by
  refine cast ?_ h
  unfold dAndV
  rw [bK_eq]
  try rfl
theorem i_orV (h : ta ρ M (bK fun k M1 => cK k (P (.bl true) M1) (tb ρ M1 P))) : dOrV ta tb ρ M P := by
  refine cast ?_ h
  unfold dOrV
  rw [bK_eq]
  try rfl
theorem i_notV (h : ta ρ M (bK fun k M1 => P (.bl (!k)) M1)) : dNotV ta ρ M P := by
  refine cast ?_ h
  unfold dNotV
  rw [bK_eq]
  try rfl
theorem i_if (h : c ρ M fun k M1 => cK k (ta ρ M1 P) (tb ρ M1 P)) : dIf c ta tb ρ M P := h
theorem i_nil (h : PA [] M) : dNil ρ M PA := h
theorem i_cons {tr : DA} (h : ta ρ M fun x M1 => tr ρ M1 fun xs M2 => PA (x :: xs) M2) : dCons ta tr ρ M PA := h
def tuK (P : D → Mem → Prop) (xs : List D) (M : Mem) : Prop := xs.length ≤ sizeLine ∧ P (.tup xs) M
def liK (P : D → Mem → Prop) (xs : List D) (M : Mem) : Prop := xs.length ≤ sizeLine ∧ ∀ p, M p = none → P (.ref p) (mset M p (.lst xs))
theorem i_tup {t : DA} (h : t ρ M (tuK P)) : dTup t ρ M P := h
theorem i_tuK (hz : xs.length ≤ sizeLine) (h : P (.tup xs) M) : tuK P xs M := ⟨hz, h⟩
theorem i_lst {t : DA} (h : t ρ M (liK P)) : dLst t ρ M P := h
theorem i_liK (hz : xs.length ≤ sizeLine) (h : ∀ p, M p = none → P (.ref p) (mset M p (.lst xs))) : liK P xs M := ⟨hz, h⟩
theorem i_cb {r : DR} {t : DA} (h : t ρ M fun xs M1 => r xs M1 P) : dCB r t ρ M P := h
theorem i_fz (h : te ρ M (fzK P)) : dFz te ρ M P := h
theorem i_fzR (hM : M a = some (.lst xs)) (h : P (.lst xs) (mdel M a)) : fzK P (.ref a) M := by
  unfold fzK
  simp only [hM]
  exact h
theorem i_fzT (h : P (.tup xs) M) : fzK P (.tup xs) M := h
theorem i_fzN (h : P .non M) : fzK P .non M := h
theorem i_fzI (h : P (.int n) M) : fzK P (.int n) M := h
theorem i_fzB {k : Bool} (h : P (.bl k) M) : fzK P (.bl k) M := h
theorem i_fzL (h : P (.lst xs) M) : fzK P (.lst xs) M := h
theorem i_pure (h : te ρ M fun d M' => P d (mcut M M')) : dPure te ρ M P := h
/- operators -/
theorem i_addI (h : P (.int (m + n)) M) : rAdd (.int m) (.int n) M P := h
theorem i_addT (hz : xs.length + ys.length ≤ sizeLine) (h : P (.tup (xs ++ ys)) M) : rAdd (.tup xs) (.tup ys) M P := ⟨hz, h⟩
theorem i_addRR (h1 : M a = some (.lst xs)) (h2 : M b = some (.lst ys)) (hz : xs.length + ys.length ≤ sizeLine) (h : ∀ p, M p = none → P (.ref p) (mset M p (.lst (xs ++ ys)))) : rAdd (.ref a) (.ref b) M P := ⟨xs, ys, h1, h2, hz, h⟩
theorem i_addLL (hz : xs.length + ys.length ≤ sizeLine) (h : ∀ p, M p = none → P (.ref p) (mset M p (.lst (xs ++ ys)))) : rAdd (.lst xs) (.lst ys) M P := ⟨hz, h⟩
theorem i_addRL (h1 : M a = some (.lst xs)) (hz : xs.length + ys.length ≤ sizeLine) (h : ∀ p, M p = none → P (.ref p) (mset M p (.lst (xs ++ ys)))) : rAdd (.ref a) (.lst ys) M P := ⟨xs, h1, hz, h⟩
theorem i_addLR (h1 : M b = some (.lst ys)) (hz : xs.length + ys.length ≤ sizeLine) (h : ∀ p, M p = none → P (.ref p) (mset M p (.lst (xs ++ ys)))) : rAdd (.lst xs) (.ref b) M P := ⟨ys, h1, hz, h⟩
theorem i_subI (h : P (.int (m - n)) M) : rSub (.int m) (.int n) M P := ⟨trivial, h⟩
theorem i_mulI (hc : CMul m n) (h : P (.int (m * n)) M) : rMul (.int m) (.int n) M P := ⟨hc, h⟩
theorem i_mulT (h1 : -1000 ≤ n) (h2 : n ≤ 1000) (hz : xs.length ≤ 1000) (h : P (.tup (List.replicate n.toNat xs).flatten) M) : rMul (.tup xs) (.int n) M P := ⟨h1, h2, hz, h⟩
theorem i_mulR (hM : M a = some (.lst xs)) (h1 : -(2 ^ 63) ≤ n) (h2 : n < 2 ^ 63) (hz : xs.length * n.toNat ≤ sizeLine) (h : ∀ p, M p = none → P (.ref p) (mset M p (.lst (List.replicate n.toNat xs).flatten))) : rMul (.ref a) (.int n) M P := ⟨xs, hM, h1, h2, hz, h⟩
theorem i_divI (hc : CDiv m n) (h : P (.int (m / n)) M) : rDiv (.int m) (.int n) M P := ⟨hc, h⟩
theorem i_modI (hc : 0 < n) (h : P (.int (m % n)) M) : rMod (.int m) (.int n) M P := ⟨hc, h⟩
theorem i_powI (hc : CPow m n) (h : P (.int (m ^ n.toNat)) M) : rPow (.int m) (.int n) M P := ⟨hc, h⟩
theorem i_ltI (h : P (.bl (decide (m < n))) M) : rLt (.int m) (.int n) M P := ⟨trivial, h⟩
theorem i_leI (h : P (.bl (decide (m ≤ n))) M) : rLe (.int m) (.int n) M P := ⟨trivial, h⟩
theorem i_gtI (h : P (.bl (decide (n < m))) M) : rGt (.int m) (.int n) M P := ⟨trivial, h⟩
theorem i_geI (h : P (.bl (decide (n ≤ m))) M) : rGe (.int m) (.int n) M P := ⟨trivial, h⟩
theorem i_eqI (h : P (.bl (decide (m = n))) M) : rEq (.int m) (.int n) M P := by
  rw [rEq_int]
  exact h
theorem i_neI (h : P (.bl (decide (m ≠ n))) M) : rNe (.int m) (.int n) M P := by
  rw [rNe_int]
  simpa using h
theorem i_isN (h : P (.bl (isNon x)) M) : rIsN x .non M P := h
theorem i_notN (h : P (.bl (!isNon x)) M) : rNotN x .non M P := h
theorem i_atT (e : atI xs n = some d) (h : P d M) : rAt (.tup xs) (.int n) M P := ⟨xs, d, rfl, e, h⟩
theorem i_atL (e : atI xs n = some d) (h : P d M) : rAt (.lst xs) (.int n) M P := ⟨xs, d, rfl, e, h⟩
theorem i_atR (hM : M a = some (.lst xs)) (e : atI xs n = some d) (h : P d M) : rAt (.ref a) (.int n) M P := ⟨xs, d, sq_ref hM, e, h⟩
theorem i_neg (h : ta ρ M (fun x M1 => dNeg (dC x) ρ M1 P)) : dNeg ta ρ M P := by
  refine cast ?_ h
  unfold dNeg dC
  rfl
theorem i_negC (h : P (.int (-n)) M) : dNeg (dC (.int n)) ρ M P := h
/- built-ins -/
theorem i_lenT (h : P (.int (xs.length : Nat)) M) : rLen [.tup xs] M P := ⟨xs, rfl, h⟩
theorem i_lenL (h : P (.int (xs.length : Nat)) M) : rLen [.lst xs] M P := ⟨xs, rfl, h⟩
theorem i_lenR (hM : M a = some (.lst xs)) (h : P (.int (xs.length : Nat)) M) : rLen [.ref a] M P := ⟨xs, sq_ref hM, h⟩
theorem i_abs (h : P (.int (if n < 0 then -n else n)) M) : rAbs [.int n] M P := h
theorem i_toI (h : P (.int n) M) : rToInt [.int n] M P := h
theorem i_toIB {k : Bool} (h : P (.int (if k then 1 else 0)) M) : rToInt [.bl k] M P := h
theorem i_max2 (h : P (.int (if n > m then n else m)) M) : rMax2 [.int m, .int n] M P := h
theorem i_min2 (h : P (.int (if n < m then n else m)) M) : rMin2 [.int m, .int n] M P := h
theorem i_toTT (h : P (.tup xs) M) : rToTup [.tup xs] M P := ⟨xs, rfl, h⟩
theorem i_toTL (h : P (.tup xs) M) : rToTup [.lst xs] M P := ⟨xs, rfl, h⟩
theorem i_toTR (hM : M a = some (.lst xs)) (h : P (.tup xs) M) : rToTup [.ref a] M P := ⟨xs, sq_ref hM, h⟩
theorem i_toLT (h : ∀ p, M p = none → P (.ref p) (mset M p (.lst xs))) : rToLst [.tup xs] M P := ⟨xs, rfl, h⟩
theorem i_toLL (h : ∀ p, M p = none → P (.ref p) (mset M p (.lst xs))) : rToLst [.lst xs] M P := ⟨xs, rfl, h⟩
theorem i_toLR (hM : M a = some (.lst xs)) (h : ∀ p, M p = none → P (.ref p) (mset M p (.lst xs))) : rToLst [.ref a] M P := ⟨xs, sq_ref hM, h⟩
theorem i_all {bs : List Bool} (e : xs = bs.map .bl) (h : P (.bl (bs.all id)) M) : rAllD [.lst xs] M P := ⟨bs, by rw [e]; rfl, h⟩
theorem i_any {bs : List Bool} (e : xs = bs.map .bl) (h : P (.bl (bs.any id)) M) : rAnyD [.lst xs] M P := ⟨bs, by rw [e]; rfl, h⟩
theorem i_sumL {ns : List Int} (e : xs = ns.map .int) (h : P (.int ns.sum) M) : rSumD [.lst xs] M P := ⟨ns, by rw [e]; rfl, h⟩
theorem i_sumT {ns : List Int} (e : xs = ns.map .int) (h : P (.int ns.sum) M) : rSumD [.tup xs] M P := ⟨ns, by rw [e]; rfl, h⟩
theorem i_isi {T : String} (h : ta ρ M fun x M1 => ∃ t b, tyOf M1 x = some t ∧ kitB t T = some b ∧ P (.bl b) M1) : dIsi T ta ρ M P := h
theorem i_isiX {T t : String} {b : Bool} (h1 : tyOf M x = some t) (h2 : kitB t T = some b) (h : P (.bl b) M) : ∃ t b, tyOf M x = some t ∧ kitB t T = some b ∧ P (.bl b) M := ⟨t, b, h1, h2, h⟩
/- places -/
theorem i_gname (h : PR (ρ.set i (some d)) M) : dgName i d ρ M PR := h
theorem i_gtup {n : Nat} {t : DGs} (e : xs.length = n) (h : t xs ρ M PR) : dgTup n t (.tup xs) ρ M PR := ⟨e, h⟩
theorem i_gcons {g : DG} {gs : DGs} (h : g d ρ M fun ρ' M' => gs xs ρ' M' PR) : dgCons g gs (d :: xs) ρ M PR := h
theorem i_gnil (h : PR ρ M) : dgNil [] ρ M PR := ⟨rfl, h⟩
/- iterators -/
variable {PS : Src → Mem → Prop}
theorem i_seqT (h : ta ρ M fun d M1 => dSeqI (dC d) ρ M1 PS) : dSeqI ta ρ M PS := by
  refine cast ?_ h
  unfold dSeqI dC
  rfl
theorem i_seqIT (h : PS ⟨xs, fun M => sqOf M (.tup xs) = some xs⟩ M) : dSeqI (dC (.tup xs)) ρ M PS := ⟨xs, rfl, h⟩
theorem i_seqIL (h : PS ⟨xs, fun M => sqOf M (.lst xs) = some xs⟩ M) : dSeqI (dC (.lst xs)) ρ M PS := ⟨xs, rfl, h⟩
theorem i_seqIR (hM : M a = some (.lst xs)) (h : PS ⟨xs, fun M => sqOf M (.ref a) = some xs⟩ M) : dSeqI (dC (.ref a)) ρ M PS := ⟨xs, sq_ref hM, h⟩
def enK (d : D) (PS : Src → Mem → Prop) (M : Mem) : Prop := ∃ xs, sqOf M d = some xs ∧ PS ⟨enumD 0 xs, fun M => sqOf M d = some xs⟩ M
def zipK (d e : D) (PS : Src → Mem → Prop) (M : Mem) : Prop := ∃ xs ys, sqOf M d = some xs ∧ sqOf M e = some ys ∧ PS ⟨zipD xs ys, fun M => sqOf M d = some xs ∧ sqOf M e = some ys⟩ M
theorem i_enum (h : ta ρ M fun d M1 => enK d PS M1) : dEnumI ta ρ M PS := h
theorem i_enX (hM : sqOf M d = some xs) (h : PS ⟨enumD 0 xs, fun M => sqOf M d = some xs⟩ M) : enK d PS M := ⟨xs, hM, h⟩
theorem i_zip (h : ta ρ M fun d M1 => tb ρ M1 fun e M2 => zipK d e PS M2) : dZipI ta tb ρ M PS := h
theorem i_zipX {e : D} (h1 : sqOf M d = some xs) (h2 : sqOf M e = some ys) (h : PS ⟨zipD xs ys, fun M => sqOf M d = some xs ∧ sqOf M e = some ys⟩ M) : zipK d e PS M := ⟨xs, ys, h1, h2, h⟩
theorem i_rg1 (h : ta ρ M fun d M1 => dRange1 (dC d) ρ M1 PS) : dRange1 ta ρ M PS := by
  refine cast ?_ h
  unfold dRange1 dC
  rfl
theorem i_rg1C (h1 : -(2 ^ 62) ≤ n) (h2 : n < 2 ^ 62) (h : PS ⟨rangeD 0 n.toNat 1, fun _ => True⟩ M) : dRange1 (dC (.int n)) ρ M PS := ⟨h1, h2, h⟩
theorem i_rg2 (h : ta ρ M fun d M1 => tb ρ M1 fun e M2 => dRange2 (dC d) (dC e) ρ M2 PS) : dRange2 ta tb ρ M PS := by
  refine cast ?_ h
  unfold dRange2 dC
  rfl
theorem i_rg2C (hz : -(2 ^ 62) ≤ m ∧ m < 2 ^ 62 ∧ -(2 ^ 62) ≤ n ∧ n < 2 ^ 62) (h : PS ⟨rangeD m (n - m).toNat 1, fun _ => True⟩ M) : dRange2 (dC (.int m)) (dC (.int n)) ρ M PS := ⟨hz, h⟩
theorem i_lc {wi : DI} {g : DG} {tt : DT} {vs : List Nat} (h : wi ρ M fun S M1 => ∀ p, M1 p = none → lcGo p S.chk g tt te (wipeD ρ vs) S.items (mset M1 p (.lst [])) fun M2 => P (.ref p) M2) : dLc wi g tt te vs ρ M P := h
theorem i_yes (h : PB true M) : dYes ρ M PB := h
/- choices -/
theorem c_t {A B : Prop} (h : A) : cK true A B := h
theorem c_f {A B : Prop} (h : B) : cK false A B := h
theorem c_b {A B : Prop} {b : Bool} (h1 : b = true → A) (h2 : b = false → B) : cK b A B := by
  cases b with
  | true => exact h1 rfl
  | false => exact h2 rfl
theorem c_d {A B : Prop} {p : Prop} [Decidable p] (h1 : p → A) (h2 : ¬ p → B) : cK (decide p) A B := c_b (fun h => h1 (of_decide_eq_true h)) (fun h => h2 (of_decide_eq_false h))
theorem c_dt {A B : Prop} {p : Prop} [Decidable p] (hp : p) (h1 : A) : cK (decide p) A B := by
  rw [decide_eq_true hp]
  exact h1
theorem c_df {A B : Prop} {p : Prop} [Decidable p] (hp : ¬ p) (h1 : B) : cK (decide p) A B := by
  rw [decide_eq_false hp]
  exact h1
theorem c_et {A B : Prop} {b : Bool} (e : b = true) (h1 : A) : cK b A B := by
  rw [e]
  exact h1
theorem c_ef {A B : Prop} {b : Bool} (e : b = false) (h1 : B) : cK b A B := by
  rw [e]
  exact h1
theorem i_append (h : to ρ M fun o M1 => dAppend (dC o) te ρ M1 P) : dAppend to te ρ M P := by
  refine cast ?_ h
  unfold dAppend dC
  rfl
def apK (a : Addr) (P : D → Mem → Prop) (d : D) (M : Mem) : Prop := withL M a fun xs => xs.length < sizeLine ∧ P .non (mset M a (.lst (xs ++ [d])))
theorem i_appR (hM : M a = some (.lst xs)) (h : te ρ M (apK a P)) : dAppend (dC (.ref a)) te ρ M P := ⟨xs, hM, h⟩
theorem i_apK (hM : M a = some (.lst xs)) (hz : xs.length < sizeLine) (h : P .non (mset M a (.lst (xs ++ [d])))) : apK a P d M := ⟨xs, hM, hz, h⟩
end
section
variable {ρ : Rho} {M : Mem} {t u : DS} {nx bk ct : Rho → Mem → Prop} {rt P : D → Mem → Prop} {PB : Bool → Mem → Prop} {ta tb tc : DE} {c c' : DT} {x y z : D} {r r' : DR2} {b1 b2 : Bool}
/-- the first part's end is known ahead of the rest -/
theorem i_join (N : Rho → Mem → Prop) (ht : ∀ nx' : Rho → Mem → Prop, (∀ ρ M, N ρ M → nx' ρ M) → t ⟨nx', rt, bk, ct⟩ ρ M) (hn : ∀ ρ M, N ρ M → u ⟨nx, rt, bk, ct⟩ ρ M) : dSeq t u ⟨nx, rt, bk, ct⟩ ρ M := ht _ hn
theorem i_andP (h1 : ∀ PB : Bool → Mem → Prop, PB b1 M → c ρ M PB) (h2 : b1 = true → ∀ PB : Bool → Mem → Prop, PB b2 M → c' ρ M PB) (h : PB (b1 && b2) M) : dAnd c c' ρ M PB := by
  refine h1 _ ?_
  cases b1 with
  | true => exact h2 rfl _ (by simpa using h)
  | false => simpa using h
theorem i_orP (h1 : ∀ PB : Bool → Mem → Prop, PB b1 M → c ρ M PB) (h2 : b1 = false → ∀ PB : Bool → Mem → Prop, PB b2 M → c' ρ M PB) (h : PB (b1 || b2) M) : dOr c c' ρ M PB := by
  refine h1 _ ?_
  cases b1 with
  | true => simpa using h
  | false => exact h2 rfl _ (by simpa using h)
theorem i_andVP (h1 : ∀ P : D → Mem → Prop, P (.bl b1) M → ta ρ M P) (h2 : b1 = true → ∀ P : D → Mem → Prop, P (.bl b2) M → tb ρ M P) (h : P (.bl (b1 && b2)) M) : dAndV ta tb ρ M P := by
  refine i_andV (h1 _ ?_)
  cases b1 with
  | true => exact h2 rfl _ (by simpa using h)
  | false => simpa [bK, cK] using h
theorem i_orVP (h1 : ∀ P : D → Mem → Prop, P (.bl b1) M → ta ρ M P) (h2 : b1 = false → ∀ P : D → Mem → Prop, P (.bl b2) M → tb ρ M P) (h : P (.bl (b1 || b2)) M) : dOrV ta tb ρ M P := by
  refine i_orV (h1 _ ?_)
  cases b1 with
  | true => simpa [bK, cK] using h
  | false => exact h2 rfl _ (by simpa using h)
theorem i_chainP (h1 : ∀ P : D → Mem → Prop, P x M → ta ρ M P) (h2 : ∀ P : D → Mem → Prop, P y M → tb ρ M P) (h3 : ∀ P : D → Mem → Prop, P (.bl b1) M → r x y M P) (h4 : b1 = true → ∀ P : D → Mem → Prop, P (.bl b2) M → tc ρ M fun w M4 => r' y w M4 P) (h : P (.bl (b1 && b2)) M) : dChain r r' ta tb tc ρ M P := by
  refine i_chain (h1 _ (h2 _ (h3 _ ?_)))
  cases b1 with
  | true => exact h4 rfl _ (by simpa using h)
  | false => simpa [bK, cK] using h
theorem i_ifP {b : Bool} {x y : D} (h1 : ∀ PB : Bool → Mem → Prop, PB b M → c ρ M PB) (h2 : b = true → ∀ P : D → Mem → Prop, P x M → ta ρ M P) (h3 : b = false → ∀ P : D → Mem → Prop, P y M → tb ρ M P) (h : P (if b then x else y) M) : dIf c ta tb ρ M P := by
  refine h1 _ ?_
  cases b with
  | true => exact h2 rfl _ (by simpa using h)
  | false => exact h3 rfl _ (by simpa using h)
theorem i_ifI {b : Bool} {m n : Int} (h1 : ∀ PB : Bool → Mem → Prop, PB b M → c ρ M PB) (h2 : b = true → ∀ P : D → Mem → Prop, P (.int m) M → ta ρ M P) (h3 : b = false → ∀ P : D → Mem → Prop, P (.int n) M → tb ρ M P) (h : P (.int (if b then m else n)) M) : dIf c ta tb ρ M P := by
  refine h1 _ ?_
  cases b with
  | true => exact h2 rfl _ (by simpa using h)
  | false => exact h3 rfl _ (by simpa using h)
theorem c_and {A B : Prop} {p q : Prop} [Decidable p] [Decidable q] (h1 : p → q → A) (h2 : ¬ (p ∧ q) → B) : cK (decide p && decide q) A B := by
  by_cases hp : p <;> by_cases hq : q
  · simpa [hp, hq, cK] using h1 hp hq
  · simpa [hp, hq, cK] using h2 (by simp [hq])
  · simpa [hp, hq, cK] using h2 (by simp [hp])
  · simpa [hp, hq, cK] using h2 (by simp [hp])
theorem c_or {A B : Prop} {p q : Prop} [Decidable p] [Decidable q] (h1 : p ∨ q → A) (h2 : ¬ p → ¬ q → B) : cK (decide p || decide q) A B := by
  by_cases hp : p <;> by_cases hq : q
  · simpa [hp, hq, cK] using h1 (.inl hp)
  · simpa [hp, hq, cK] using h1 (.inl hp)
  · simpa [hp, hq, cK] using h1 (.inr hq)
  · simpa [hp, hq, cK] using h2 hp hq
end
end DL
/-! Plain values that may be shown and compared. -/
namespace DL
open PySem PySem.Spec PyProof.Rows L2
/-- a value of ints, tuples and finished lists: its datum, its depth and its room -/
def ShwP (d : D) (e : PyData) (dep wt : Nat) : Prop :=
  (∀ M, pd M d = some e) ∧ (∀ a, d ≠ .ref a) ∧ e.showable = true ∧ e.hasDict = false ∧ e.canLay0 = true ∧ e.depth ≤ dep ∧ e.leavesShort 13 = true ∧ e.bulk ≤ wt
def Shw (d : D) (dep wt : Nat) : Prop := ∃ e, ShwP d e dep wt
theorem Shw.int {i : Int} (h0 : -1000000 ≤ i) (h1 : i ≤ 1000000) : Shw (.int i) 0 0 := by
  refine ⟨.int i, fun M => rfl, (fun a h => by cases h), ?_, rfl, by simp [PyData.canLay0], by simp [PyData.depth], ?_, by simp [PyData.bulk]⟩
  · have := shaped_int i
    simp only [PyData.showable, decide_eq_true_eq]
    have h : i.natAbs < 2 ^ 1920 := by
      have e : (2:Nat) ^ 20 ≤ 2 ^ 1920 := Nat.pow_le_pow_right (by decide) (by decide)
      have e2 : (2:Nat) ^ 20 = 1048576 := by decide
      omega
    by_cases hz : i.natAbs = 0
    · rw [hz]; decide
    · exact (Nat.log2_lt hz).mpr h
  · simp only [PyData.leavesShort, decide_eq_true_eq]
    exact PyData.shown_int_le2 (by omega) (by omega)
theorem pds_shw {xs : List D} {dep wt : Nat} (h : ∀ x ∈ xs, Shw x dep wt) : ∃ es : List PyData, (∀ M, pds M xs = some es) ∧ PyData.showableAll es = true ∧ PyData.hasDictAll es = false ∧ PyData.canLayAll0 es = true ∧ PyData.depthAll es ≤ dep ∧ PyData.leavesShortAll 13 es = true ∧ PyData.bulkAll es ≤ xs.length * (wt + 1) := by
  induction xs with
  | nil => exact ⟨[], fun M => rfl, rfl, rfl, rfl, Nat.zero_le _, rfl, Nat.zero_le _⟩
  | cons x r ih =>
    obtain ⟨es, h1, h2, h3, h4, h5, h6, h7⟩ := ih fun y hy => h y (List.mem_cons_of_mem _ hy)
    obtain ⟨e, g1, g0, g2, g3, g4, g5, g6, g7⟩ := h x List.mem_cons_self
    refine ⟨e :: es, fun M => by simp only [pds, g1, h1], by simp only [PyData.showableAll, g2, h2, Bool.and_self], by simp only [PyData.hasDictAll, g3, h3, Bool.or_self], by simp only [PyData.canLayAll0, g4, h4, Bool.and_self], by simp only [PyData.depthAll]; omega, by simp only [PyData.leavesShortAll, g6, h6, Bool.and_self], ?_⟩
    simp only [PyData.bulkAll, List.length_cons, Nat.succ_mul]
    omega
theorem Shw.tup {xs : List D} {dep wt : Nat} (h : ∀ x ∈ xs, Shw x dep wt) : Shw (.tup xs) (dep + 1) (xs.length * (wt + 1)) := by
  obtain ⟨es, h1, h2, h3, h4, h5, h6, h7⟩ := pds_shw h
  exact ⟨.tuple es, fun M => by simp only [pd, h1, Option.map_some], (fun a h => by cases h), by simp only [PyData.showable, h2], by simp only [PyData.hasDict, h3], by simp only [PyData.canLay0, h4], by simp only [PyData.depth]; omega, by simp only [PyData.leavesShort, h6], by simp only [PyData.bulk]; exact h7⟩
theorem Shw.lst {xs : List D} {dep wt : Nat} (h : ∀ x ∈ xs, Shw x dep wt) : Shw (.lst xs) (dep + 1) (xs.length * (wt + 1)) := by
  obtain ⟨es, h1, h2, h3, h4, h5, h6, h7⟩ := pds_shw h
  exact ⟨.list es, fun M => by simp only [pd, h1, Option.map_some], (fun a h => by cases h), by simp only [PyData.showable, h2], by simp only [PyData.hasDict, h3], by simp only [PyData.canLay0, h4], by simp only [PyData.depth]; omega, by simp only [PyData.leavesShort, h6], by simp only [PyData.bulk]; exact h7⟩
theorem Shw.mono {d : D} {a b a' b' : Nat} (h : Shw d a b) (h1 : a ≤ a') (h2 : b ≤ b') : Shw d a' b' := by
  obtain ⟨e, g1, g0, g2, g3, g4, g5, g6, g7⟩ := h
  exact ⟨e, g1, g0, g2, g3, g4, Nat.le_trans g5 h1, g6, Nat.le_trans g7 h2⟩
section
variable {M : Mem} {P : D → Mem → Prop} {d x y : D} {dep wt : Nat}
theorem pdT_of {e : PyData} (h : pd M d = some e) (hr : ∀ a, d ≠ .ref a) : pdT M d = some e := by
  cases d with
  | ref a => exact (hr a rfl).elim
  | _ => exact h
theorem i_repr {t : Str → Prop} (h : Shw d 60 1048576) (q : ∀ s : Str, (∀ M (P : D → Mem → Prop), P (.str s) M → rRepr [d] M P) → P (.str s) M) : rRepr [d] M P := by
  obtain ⟨e, g1, g0, g2, g3, g4, g5, g6, g7⟩ := h
  have hz : e.shown.length ≤ sizeLine := PyData.shown_fits_bulk (by decide) (by decide) g6 g7
  exact ⟨e, pdT_of (g1 M) g0, g2, g3, g5, hz, q e.shown fun M P p => ⟨e, pdT_of (g1 M) g0, g2, g3, g5, hz, p⟩⟩
/-- a value's shown text, whatever the store -/
theorem shw_str (h : Shw d 60 1048576) : ∃ s : Str, ∀ M (P : D → Mem → Prop), P (.str s) M → rRepr [d] M P := by
  obtain ⟨e, g1, g0, g2, g3, g4, g5, g6, g7⟩ := h
  have hz : e.shown.length ≤ sizeLine := PyData.shown_fits_bulk (by decide) (by decide) g6 g7
  exact ⟨e.shown, fun M P p => ⟨e, pdT_of (g1 M) g0, g2, g3, g5, hz, p⟩⟩
theorem i_eqS {a b : Str} (h : P (.bl (decide (a = b))) M) : rEq (.str a) (.str b) M P := .inr ⟨a, b, rfl, rfl, h⟩
theorem i_neS {a b : Str} (h : P (.bl (!decide (a = b))) M) : rNe (.str a) (.str b) M P := .inr ⟨a, b, rfl, rfl, h⟩
/-- alike values are equal -/
theorem i_eqX (h : Shw d 60 wt) (q : P (.bl true) M) : rEq d d M P := by
  obtain ⟨e, g1, g0, g2, g3, g4, g5, g6, g7⟩ := h
  have hs : SeqAt.shaped e = true := by
    simp only [SeqAt.shaped, g4, Bool.true_and, decide_eq_true_eq]
    omega
  exact .inl ⟨e, e, pdT_of (g1 M) g0, pdT_of (g1 M) g0, hs, hs, by rw [SeqAt.eqv_refl _ g4]; exact q⟩
theorem i_neX (h : Shw d 60 wt) (q : P (.bl false) M) : rNe d d M P := by
  obtain ⟨e, g1, g0, g2, g3, g4, g5, g6, g7⟩ := h
  have hs : SeqAt.shaped e = true := by
    simp only [SeqAt.shaped, g4, Bool.true_and, decide_eq_true_eq]
    omega
  exact .inl ⟨e, e, pdT_of (g1 M) g0, pdT_of (g1 M) g0, hs, hs, by rw [SeqAt.eqv_refl _ g4]; exact q⟩
/-- lists, under work or finished -/
theorem i_eqLs {xs : List D} (hx : pdT M x = pdT M (.lst xs)) (hy : pdT M y = pdT M (.lst xs)) (h : Shw (.lst xs) 60 wt) (q : P (.bl true) M) : rEq x y M P := by
  obtain ⟨e, g1, g0, g2, g3, g4, g5, g6, g7⟩ := h
  have hs : SeqAt.shaped e = true := by
    simp only [SeqAt.shaped, g4, Bool.true_and, decide_eq_true_eq]
    omega
  exact .inl ⟨e, e, by rw [hx]; exact pdT_of (g1 M) g0, by rw [hy]; exact pdT_of (g1 M) g0, hs, hs, by rw [SeqAt.eqv_refl _ g4]; exact q⟩
theorem pdT_ref {a : Addr} {xs : List D} (h : M a = some (.lst xs)) : pdT M (.ref a) = pdT M (.lst xs) := by
  simp only [pdT, h, pd]
end
/-! pairs -/
abbrev pr (a b : Int) : D := .tup [.int a, .int b]
theorem Shw.pr {a b : Int} (h : -1000000 ≤ a ∧ a ≤ 1000000 ∧ -1000000 ≤ b ∧ b ≤ 1000000) : Shw (pr a b) 1 2 := by
  have := Shw.tup (xs := [.int a, .int b]) (dep := 0) (wt := 0) fun x hx => by
    simp only [List.mem_cons, List.not_mem_nil, or_false] at hx
    rcases hx with rfl | rfl
    · exact .int h.1 h.2.1
    · exact .int h.2.2.1 h.2.2.2
  exact this
theorem Shw.map {α : Type} {f : α → D} {l : List α} {dep wt n : Nat} (h : ∀ x ∈ l, Shw (f x) dep wt) (hn : l.length ≤ n) : Shw (.tup (l.map f)) (dep + 1) (n * (wt + 1)) := by
  have := Shw.tup (xs := l.map f) (dep := dep) (wt := wt) fun x hx => by
    obtain ⟨y, hy, rfl⟩ := List.mem_map.mp hx
    exact h y hy
  refine this.mono (Nat.le_refl _) ?_
  rw [List.length_map]
  exact Nat.mul_le_mul_right _ hn
theorem Shw.mapL {α : Type} {f : α → D} {l : List α} {dep wt n : Nat} (h : ∀ x ∈ l, Shw (f x) dep wt) (hn : l.length ≤ n) : Shw (.lst (l.map f)) (dep + 1) (n * (wt + 1)) := by
  have := Shw.lst (xs := l.map f) (dep := dep) (wt := wt) fun x hx => by
    obtain ⟨y, hy, rfl⟩ := List.mem_map.mp hx
    exact h y hy
  refine this.mono (Nat.le_refl _) ?_
  rw [List.length_map]
  exact Nat.mul_le_mul_right _ hn
theorem Shw.two {a b : D} {dep wt : Nat} (ha : Shw a dep wt) (hb : Shw b dep wt) : Shw (.tup [a, b]) (dep + 1) (2 * (wt + 1)) := Shw.tup fun x hx => by
  simp only [List.mem_cons, List.not_mem_nil, or_false] at hx
  rcases hx with rfl | rfl
  · exact ha
  · exact hb
/-! ranges -/
section
variable {M : Mem} {P : D → Mem → Prop} {g : DG} {tt : DT} {te : DE} {ρ0 : Rho} {chk : Mem → Prop}
/-- a finished comprehension over a range -/
theorem lc_rng {n : Nat} (f : Nat → D) (hz : n ≤ sizeLine) (hchk : ∀ M, chk M)
    (hstep : ∀ k, k < n → ∀ (M : Mem) (Q : D → Mem → Prop), Q (f k) M → g (.int (k : Nat)) ρ0 M fun ρ' M' => te ρ' M' Q)
    (h : P (.lst ((List.range n).map f)) M) : ∀ p, M p = none → lcGo p chk g dYes te ρ0 (rangeD 0 n 1) (mset M p (.lst [])) fun M2 => fzK P (.ref p) M2 := by
  rw [rangeD_map]
  simp only [Int.zero_add]
  exact lc_map (enc := fun (k : Nat) => .int (k : Int)) (L := List.range n) f (by rw [List.length_range]; exact hz) (fun p _ acc => hchk _) (fun x hx M Q q => hstep x (List.mem_range.mp hx) M Q q) h
end
end DL
/-! More steps: lists finished at once, slices, stores with one list under work. -/
namespace DL
open PySem PySem.Spec PyProof.Rows L2
theorem mcut_mset (M : Mem) (h : Addr) (o o' : MO) : mcut (mset M h o) (mset M h o') = mset M h o' := Mem.ext' fun b => by
  show (if (if b = h then some o else M b) = none then none else if b = h then some o' else M b) = if b = h then some o' else M b
  by_cases e : b = h
  · simp [e]
  · simp only [e, if_false]
    split <;> simp_all
section
variable {ρ : Rho} {M : Mem} {P : D → Mem → Prop} {te : DE} {tl th : DO} {xs : List D} {lo hi : Option Int} {i : Int} {a : Addr} {ns : List Int} {PO : Option Int → Mem → Prop}
theorem i_liF (hz : xs.length ≤ sizeLine) (h : P (.lst xs) M) : liK (fzK P) xs M := ⟨hz, fun p hp => i_fzR (mset_eq _ _ _) (by rw [mdel_new hp]; exact h)⟩
theorem i_sl (h : te ρ M fun x M1 => tl ρ M1 fun l M2 => th ρ M2 fun u M3 => rCut x l u M3 P) : dSl te tl th ρ M P := h
theorem i_noPart (h : PO none M) : dNoPart ρ M PO := h
def paK (PO : Option Int → Mem → Prop) : D → Mem → Prop
  | .int i, M => PO (some i) M
  | _, _ => False
theorem i_part (h : te ρ M (paK PO)) : dPart te ρ M PO := by
  refine cast ?_ h
  unfold dPart
  congr 1
  funext x M1
  cases x <;> rfl
theorem i_paK (h : PO (some i) M) : paK PO (.int i) M := h
theorem i_cutT (h : P (.tup (cutD xs lo hi)) M) : rCut (.tup xs) lo hi M P := h
theorem i_cutLF (h : P (.lst (cutD xs lo hi)) M) : rCut (.lst xs) lo hi M (fzK P) := ⟨xs, rfl, fun p hp => i_fzR (mset_eq _ _ _) (by rw [mdel_new hp]; exact h)⟩
theorem i_cutSF (h : P (.lst (cutD (ns.map .int) lo hi)) M) : rCut (.scr ns) lo hi M (fzK P) := ⟨ns.map .int, rfl, fun p hp => i_fzR (mset_eq _ _ _) (by rw [mdel_new hp]; exact h)⟩
theorem i_cutRF (hM : M a = some (.lst xs)) (h : P (.lst (cutD xs lo hi)) M) : rCut (.ref a) lo hi M (fzK P) := ⟨xs, by simp only [lsOf, hM], fun p hp => i_fzR (mset_eq _ _ _) (by rw [mdel_new hp]; exact h)⟩
theorem i_cutL (h : ∀ p, M p = none → P (.ref p) (mset M p (.lst (cutD xs lo hi)))) : rCut (.lst xs) lo hi M P := ⟨xs, rfl, h⟩
theorem i_cutR (hM : M a = some (.lst xs)) (h : ∀ p, M p = none → P (.ref p) (mset M p (.lst (cutD xs lo hi)))) : rCut (.ref a) lo hi M P := ⟨xs, by simp only [lsOf, hM], h⟩
theorem cut_to {xs : List D} {k : Int} (hk : 0 ≤ k) : cutD xs none (some k) = xs.take k.toNat := by
  have e : HT.sIx xs.length xs.length (some k) - HT.sIx xs.length 0 none = min k.toNat xs.length := by
    obtain ⟨n, rfl⟩ : ∃ n : Nat, k = n := ⟨k.toNat, by omega⟩
    rw [HT.sIx_nat, HT.sIx_none]
    simp
  unfold cutD
  rw [e, HT.sIx_none, List.drop_zero, ← List.take_eq_take_min]
/- extend -/
theorem i_extend {to : DE} (h : to ρ M fun o M1 => dExtend (dC o) te ρ M1 P) : dExtend to te ρ M P := by
  refine cast ?_ h
  unfold dExtend dC
  rfl
def exK (a : Addr) (P : D → Mem → Prop) : D → Mem → Prop
  | .lst zs, M => withL M a fun xs => xs.length + zs.length ≤ sizeLine ∧ P .non (mset M a (.lst (xs ++ zs)))
  | .ref b, M => withL M a fun xs => withL M b fun zs => xs.length + zs.length ≤ sizeLine ∧ P .non (mset M a (.lst (xs ++ zs)))
  | _, _ => False
theorem i_extR (hM : M a = some (.lst xs)) (h : te ρ M (exK a P)) : dExtend (dC (.ref a)) te ρ M P := by
  refine ⟨xs, hM, ?_⟩
  refine cast ?_ h
  congr 1
  funext d M2
  unfold exK withL
  cases d <;> simp
theorem i_exL {zs : List D} (hM : M a = some (.lst xs)) (hz : xs.length + zs.length ≤ sizeLine) (h : P .non (mset M a (.lst (xs ++ zs)))) : exK a P (.lst zs) M := ⟨xs, hM, hz, h⟩
theorem i_exR {b : Addr} {zs : List D} (hM : M a = some (.lst xs)) (hB : M b = some (.lst zs)) (hz : xs.length + zs.length ≤ sizeLine) (h : P .non (mset M a (.lst (xs ++ zs)))) : exK a P (.ref b) M := ⟨xs, hM, zs, hB, hz, h⟩
end
end DL
/-! Plans and rows of amounts: plain lists. -/
namespace DL
open PySem PySem.Spec PyProof.Rows L2
/-- whole numbers from lo on -/
def am (lo : Int) (n : Nat) : List Int := (List.range n).map fun (k : Nat) => lo + k
theorem am_len (lo : Int) (n : Nat) : (am lo n).length = n := by simp [am]
theorem am_mem {lo : Int} {n : Nat} {a : Int} (h : a ∈ am lo n) : lo ≤ a ∧ a < lo + n := by
  obtain ⟨k, hk, rfl⟩ := List.mem_map.mp h
  have := List.mem_range.mp hk
  omega
theorem rangeD_am (lo : Int) (n : Nat) : rangeD lo n 1 = (am lo n).map .int := by
  rw [rangeD_map, am, List.map_map]
  rfl
theorem am_add (lo : Int) (a b : Nat) : am lo (a + b) = am lo a ++ am (lo + a) b := by
  unfold am
  rw [List.range_add, List.map_append, List.map_map]
  congr 1
  refine List.map_congr_left fun k _ => ?_
  simp only [Function.comp]
  omega
/-- the part of a run of numbers between two bounds -/
theorem am_sub {lo lo' hi' : Int} {n : Nat} (h1 : lo ≤ lo') (h2 : hi' < lo + n) (h3 : lo' ≤ hi' + 1) : (am lo n).filter (fun a => decide (lo' ≤ a) && decide (a ≤ hi')) = am lo' (hi' + 1 - lo').toNat := by
  obtain ⟨a, b, c, rfl, ha, hb⟩ : ∃ a b c : Nat, n = a + b + c ∧ (a : Int) = lo' - lo ∧ (b : Int) = hi' + 1 - lo' := ⟨(lo' - lo).toNat, (hi' + 1 - lo').toNat, (lo + n - (hi' + 1)).toNat, by omega, by omega, by omega⟩
  rw [am_add, am_add, List.filter_append, List.filter_append]
  have e1 : (am lo a).filter (fun a => decide (lo' ≤ a) && decide (a ≤ hi')) = [] := List.filter_eq_nil_iff.mpr fun x hx => by
    have := am_mem hx
    simp only [Bool.and_eq_true, decide_eq_true_eq]
    omega
  have e3 : (am (lo + ((a + b : Nat) : Int)) c).filter (fun a => decide (lo' ≤ a) && decide (a ≤ hi')) = [] := List.filter_eq_nil_iff.mpr fun x hx => by
    have := am_mem hx
    simp only [Bool.and_eq_true, decide_eq_true_eq]
    omega
  have e2 : (am (lo + (a : Nat)) b).filter (fun a => decide (lo' ≤ a) && decide (a ≤ hi')) = am (lo + (a : Nat)) b := List.filter_eq_self.mpr fun x hx => by
    have := am_mem hx
    simp only [Bool.and_eq_true, decide_eq_true_eq]
    omega
  rw [e1, e2, e3, List.nil_append, List.append_nil, show lo + (a : Int) = lo' by omega]
  congr 1
  omega
/-- rows of amounts, hour by hour -/
def stepR (l : List Int) (F : List (List Int)) : List (List Int) := F.flatMap fun row => l.map fun a => row ++ [a]
def rowsK (l : List Int) : Nat → List (List Int)
  | 0 => [[]]
  | k + 1 => stepR l (rowsK l k)
theorem rowsK_mem {l : List Int} : ∀ {k : Nat} {row : List Int}, row ∈ rowsK l k → row.length = k ∧ ∀ a ∈ row, a ∈ l
  | 0, row, h => by
    simp only [rowsK, List.mem_cons, List.not_mem_nil, or_false] at h
    subst h
    exact ⟨rfl, fun a h => by cases h⟩
  | k + 1, row, h => by
    obtain ⟨r, hr, h⟩ := List.mem_flatMap.mp h
    obtain ⟨a, ha, rfl⟩ := List.mem_map.mp h
    obtain ⟨h1, h2⟩ := rowsK_mem hr
    refine ⟨by simp [h1], fun b hb => ?_⟩
    rcases List.mem_append.mp hb with hb | hb
    · exact h2 b hb
    · simp only [List.mem_cons, List.not_mem_nil, or_false] at hb
      subst hb
      exact ha
theorem flatMap_len {α β : Type} {f : α → List β} {m : Nat} : ∀ {l : List α}, (∀ x ∈ l, (f x).length = m) → (l.flatMap f).length = l.length * m
  | [], _ => by simp
  | x :: r, h => by
    rw [List.flatMap_cons, List.length_append, h x List.mem_cons_self, flatMap_len fun y hy => h y (List.mem_cons_of_mem _ hy), List.length_cons, Nat.succ_mul]
    omega
theorem rowsK_len (l : List Int) : ∀ k, (rowsK l k).length = l.length ^ k
  | 0 => rfl
  | k + 1 => by
    show (stepR l (rowsK l k)).length = _
    unfold stepR
    rw [flatMap_len (m := l.length) (fun x _ => by simp), rowsK_len l k, Nat.pow_succ]
/-- plans and their levels, hour by hour -/
def stepP (r s : Int × Int) (F : List (List Int × Int)) : List (List Int × Int) := F.flatMap fun x => ((am r.1 (r.2 + 1 - r.1).toNat).filter fun a => decide (s.1 ≤ x.2 + a) && decide (x.2 + a ≤ s.2)).map fun a => (x.1 ++ [a], x.2 + a)
def plansK (rs : List (Int × Int × Int × Int)) : List (List Int × Int) := rs.foldl (fun F x => stepP (x.1, x.2.1) (x.2.2.1, x.2.2.2) F) [([], 0)]
theorem plansK_snoc (rs : List (Int × Int × Int × Int)) (x : Int × Int × Int × Int) : plansK (rs ++ [x]) = stepP (x.1, x.2.1) (x.2.2.1, x.2.2.2) (plansK rs) := by
  unfold plansK
  rw [List.foldl_append]
  rfl
/-- a row keeps within an hour's bounds -/
def okA (x : Int × Int × Int × Int) (s a : Int) : Bool := (decide (x.1 ≤ a) && decide (a ≤ x.2.1)) && (decide (x.2.2.1 ≤ s + a) && decide (s + a ≤ x.2.2.2))
/-- .. and within each hour's -/
def okR : List (Int × Int × Int × Int) → List Int → Int → Bool
  | [], _, _ => true
  | _ :: _, [], _ => false
  | x :: xs, a :: r, s => okA x s a && okR xs r (s + a)
theorem okR_snoc (x : Int × Int × Int × Int) (a : Int) : ∀ (xs : List (Int × Int × Int × Int)) (r : List Int) (s : Int), r.length = xs.length → okR (xs ++ [x]) (r ++ [a]) s = (okR xs r s && okA x (s + r.sum) a)
  | [], [], s, _ => by simp [okR]
  | [], _ :: _, _, h => by simp at h
  | _ :: _, [], _, h => by simp at h
  | y :: ys, b :: r, s, h => by
    simp only [List.cons_append, okR, okR_snoc x a ys r (s + b) (by simpa using h), List.sum_cons]
    rw [Bool.and_assoc, Int.add_assoc]
theorem flatMap_filter {α β : Type} (p : α → Bool) (f : α → List β) : ∀ l : List α, (l.filter p).flatMap f = l.flatMap fun x => if p x then f x else []
  | [] => rfl
  | x :: r => by
    by_cases h : p x
    · rw [List.filter_cons_of_pos h, List.flatMap_cons, List.flatMap_cons, flatMap_filter p f r, if_pos h]
    · rw [List.filter_cons_of_neg h, List.flatMap_cons, flatMap_filter p f r, if_neg h, List.nil_append]
theorem flatMap_congr' {α β : Type} {f g : α → List β} : ∀ {l : List α}, (∀ x ∈ l, f x = g x) → l.flatMap f = l.flatMap g
  | [], _ => rfl
  | x :: r, h => by rw [List.flatMap_cons, List.flatMap_cons, h x List.mem_cons_self, flatMap_congr' fun y hy => h y (List.mem_cons_of_mem _ hy)]
theorem rev_ind {α : Type} {Q : List α → Prop} (h0 : Q []) (h1 : ∀ l x, Q l → Q (l ++ [x])) (l : List α) : Q l := by
  have h : ∀ m : List α, Q m.reverse := fun m => by
    induction m with
    | nil => exact h0
    | cons x r ih => rw [List.reverse_cons]; exact h1 _ _ ih
  have := h l.reverse
  rwa [List.reverse_reverse] at this
/-- the plans, by levels, are the rows that keep within every hour's bounds -/
theorem plans_rows {lo : Int} {n : Nat} : ∀ (rs : List (Int × Int × Int × Int)), (∀ x ∈ rs, lo ≤ x.1 ∧ x.2.1 < lo + n ∧ x.1 ≤ x.2.1 + 1) → plansK rs = ((rowsK (am lo n) rs.length).filter fun r => okR rs r 0).map fun r => (r, r.sum) := by
  refine rev_ind (fun _ => rfl) fun rs x ih => ?_
  · intro h
    have ih := ih fun y hy => h y (List.mem_append_left _ hy)
    have hx := h x (by simp)
    rw [plansK_snoc, ih]
    unfold stepP
    rw [List.flatMap_map, List.length_append, List.length_singleton]
    show _ = ((stepR (am lo n) (rowsK (am lo n) rs.length)).filter _).map _
    unfold stepR
    rw [List.filter_flatMap, List.map_flatMap, flatMap_filter]
    refine flatMap_congr' fun row hrow => ?_
    have hl := (rowsK_mem hrow).1
    rw [List.filter_map, List.map_map]
    have e1 : (fun a => okR (rs ++ [x]) (row ++ [a]) 0) = fun a => okR rs row 0 && okA x row.sum a := funext fun a => by
      rw [okR_snoc x a rs row 0 hl, Int.zero_add]
    show _ = ((am lo n).filter fun a => okR (rs ++ [x]) (row ++ [a]) 0).map _
    rw [e1]
    cases okR rs row 0 with
    | false =>
      simp
    | true =>
      simp only [if_true, Bool.true_and]
      rw [← am_sub hx.1 hx.2.1 hx.2.2, List.filter_filter]
      have e2 : ((am lo n).filter fun a => okA x row.sum a) = (am lo n).filter fun a => (decide (x.2.2.1 ≤ row.sum + a) && decide (row.sum + a ≤ x.2.2.2)) && (decide (x.1 ≤ a) && decide (a ≤ x.2.1)) := by
        refine List.filter_congr fun a _ => ?_
        unfold okA
        rw [Bool.and_comm]
      rw [e2]
      refine List.map_congr_left fun a _ => ?_
      simp [Function.comp, List.sum_append]
abbrev tupI (row : List Int) : D := .tup (row.map .int)
abbrev encP (x : List Int × Int) : D := .tup [tupI x.1, .int x.2]
/-! enumerate and its kin -/
theorem forGo_enum {α : Type} {enc : α → D} {chk : Mem → Prop} {g : DG} {tb : DS} {E : DEnds} (I : List α → Rho → Mem → Prop) :
    ∀ (post pre : List α) (ρ : Rho) (M : Mem) (hchk : ∀ q ρ M, I q ρ M → chk M)
      (hstep : ∀ q x r ρ M, pre ++ post = q ++ x :: r → I q ρ M → ∀ N : Rho → Mem → Prop, (∀ ρ M, I (q ++ [x]) ρ M → N ρ M) → g (.tup [.int (q.length : Nat), enc x]) ρ M fun ρ' M' => tb { E with nx := N, ct := N, bk := E.nx } ρ' M')
      (hend : ∀ ρ M, I (pre ++ post) ρ M → E.nx ρ M) (h0 : I pre ρ M), forGo chk g tb E (enumD pre.length (post.map enc)) ρ M := by
  intro post
  induction post with
  | nil =>
    intro pre ρ M hchk hstep hend h0
    exact ⟨hchk pre ρ M h0, hend ρ M (by rw [List.append_nil]; exact h0)⟩
  | cons x r ih =>
    intro pre ρ M hchk hstep hend h0
    refine ⟨hchk pre ρ M h0, hstep pre x r ρ M rfl h0 _ fun ρ2 M2 h2 => ?_⟩
    have e : pre ++ x :: r = (pre ++ [x]) ++ r := by simp
    have := ih (pre ++ [x]) ρ2 M2 hchk (fun q y t ρ M e' => hstep q y t ρ M (e.trans e')) (fun ρ M h => hend ρ M (by rw [e]; exact h)) h2
    rw [List.length_append, List.length_singleton] at this
    exact this
theorem for_enum {α : Type} {enc : α → D} {chk : Mem → Prop} {g : DG} {tb : DS} {E : DEnds} {L : List α} {ρ : Rho} {M : Mem} (I : List α → Rho → Mem → Prop) (h0 : I [] ρ M) (hchk : ∀ q ρ M, I q ρ M → chk M)
    (hstep : ∀ q x r ρ M, L = q ++ x :: r → I q ρ M → ∀ N : Rho → Mem → Prop, (∀ ρ M, I (q ++ [x]) ρ M → N ρ M) → g (.tup [.int (q.length : Nat), enc x]) ρ M fun ρ' M' => tb { E with nx := N, ct := N, bk := E.nx } ρ' M')
    (hend : ∀ ρ M, I L ρ M → E.nx ρ M) : forGo chk g tb E (enumD 0 (L.map enc)) ρ M := forGo_enum I L [] ρ M hchk hstep hend h0
theorem at_app {α : Type} {f : α → D} {L q r : List α} {x : α} (e : L = q ++ x :: r) : atI (L.map f) (q.length : Nat) = some (f x) := by
  rw [atI_n (by omega) (by rw [e]; simp)]
  simp [e]
theorem plansK_mem : ∀ (rs : List (Int × Int × Int × Int)) (y : List Int × Int), y ∈ plansK rs → y.1.length = rs.length := by
  refine rev_ind (fun y h => ?_) fun rs x ih y h => ?_
  · simp only [plansK, List.foldl_nil, List.mem_cons, List.not_mem_nil, or_false] at h
    rw [h]
    rfl
  · rw [plansK_snoc] at h
    obtain ⟨z, hz, h⟩ := List.mem_flatMap.mp h
    obtain ⟨a, _, rfl⟩ := List.mem_map.mp h
    simp [ih _ hz]
theorem enumD_zip {α : Type} (f : α → D) : ∀ (l : List α) (k : Nat), enumD k (l.map f) = (l.zipIdx k).map fun z => .tup [.int (z.2 : Nat), f z.1]
  | [], _ => rfl
  | x :: r, k => by
    simp only [List.map_cons, enumD, List.zipIdx_cons, enumD_zip f r (k + 1)]
theorem filter_snoc {α : Type} (p : α → Bool) (l : List α) (x : α) : (l ++ [x]).filter p = if p x then l.filter p ++ [x] else l.filter p := by
  rw [List.filter_append]
  by_cases h : p x
  · rw [if_pos h, List.filter_cons_of_pos h, List.filter_nil]
  · rw [if_neg h, List.filter_cons_of_neg h, List.filter_nil, List.append_nil]
theorem plans_len {lo : Int} {n : Nat} {rs : List (Int × Int × Int × Int)} (h : ∀ x ∈ rs, lo ≤ x.1 ∧ x.2.1 < lo + n ∧ x.1 ≤ x.2.1 + 1) : (plansK rs).length ≤ n ^ rs.length := by
  rw [plans_rows rs h, List.length_map]
  refine Nat.le_trans (List.length_filter_le _ _) ?_
  rw [rowsK_len, am_len]
  exact Nat.le_refl _
theorem pow_bd {m k : Nat} (hm : m ≤ 19) (hk : k ≤ 3) : m ^ k ≤ 1000000 := by
  have h := Nat.pow_le_pow_left hm k
  have : (19 : Nat) ^ k ≤ 1000000 := by
    obtain rfl | rfl | rfl | rfl : k = 0 ∨ k = 1 ∨ k = 2 ∨ k = 3 := by omega
    all_goals decide
  omega
theorem plans_sz {lo : Int} {n : Nat} {rs : List (Int × Int × Int × Int)} (h : ∀ x ∈ rs, lo ≤ x.1 ∧ x.2.1 < lo + n ∧ x.1 ≤ x.2.1 + 1) (hn : n ≤ 19) (hl : rs.length ≤ 3) : ∀ q x r, rs = q ++ x :: r → (plansK (q ++ [x])).length ≤ 1000000 := fun q x r e => by
  have h1 : ∀ y ∈ q ++ [x], lo ≤ y.1 ∧ y.2.1 < lo + n ∧ y.1 ≤ y.2.1 + 1 := fun y hy => h y (by
    rw [e]
    simp only [List.mem_append, List.mem_cons, List.not_mem_nil, or_false] at hy ⊢
    rcases hy with hy | hy
    · exact .inl hy
    · exact .inr (.inl hy))
  have h2 := plans_len h1
  have h3 : (q ++ [x]).length ≤ 3 := by
    have := congrArg List.length e
    simp only [List.length_append, List.length_cons, List.length_nil] at this ⊢
    omega
  exact Nat.le_trans h2 (pow_bd hn h3)
theorem plans_keep {lo : Int} {m : Nat} {rs : List (Int × Int × Int × Int)} {keep : List Int → Bool} (h : ∀ x ∈ rs, lo ≤ x.1 ∧ x.2.1 < lo + m ∧ x.1 ≤ x.2.1 + 1) (hk : ∀ row : List Int, row.length = rs.length → (∀ a ∈ row, lo ≤ a ∧ a < lo + m) → okR rs row 0 = keep row) :
    (plansK rs).map (fun y => tupI y.1) = ((rowsK (am lo m) rs.length).filter keep).map tupI := by
  rw [plans_rows rs h, List.map_map]
  rw [List.filter_congr (q := keep) fun row hrow => hk row (rowsK_mem hrow).1 fun a ha => am_mem ((rowsK_mem hrow).2 a ha)]
  rfl
theorem mset_none {M : Mem} {h p : Addr} {o o' : MO} (e : mset M h o p = none) : mset M h o' p = none := by
  have e' : (if p = h then some o else M p) = none := e
  show (if p = h then some o' else M p) = none
  by_cases c : p = h
  · rw [if_pos c] at e'
    cases e'
  · rw [if_neg c] at e' ⊢
    exact e'
theorem Shw.rows {l : List (List Int)} {lo hi : Int} (h0 : -1000000 ≤ lo ∧ hi ≤ 1000000) (h : ∀ r ∈ l, ∀ a ∈ r, lo ≤ a ∧ a ≤ hi) {w : Nat} (hw : ∀ r ∈ l, r.length ≤ w) : Shw (.lst (l.map tupI)) 60 (l.length * (w * 1 + 1)) :=
  (Shw.mapL (f := tupI) (l := l) (dep := 1) (wt := w * 1) (n := l.length) (fun r hr => Shw.map (f := .int) (l := r) (dep := 0) (wt := 0) (n := w) (fun a ha => by
    have := h r hr a ha
    exact .int (by omega) (by omega)) (hw r hr)) (Nat.le_refl _)).mono (by decide) (Nat.le_refl _)
end DL
namespace LK10
open PySem PySem.Spec PyProof.Rows L2 DL
def topS (i : Nat) : Stmt := PySem.Challenge.pw_loadswait_k10_whole_cars_boilers_stores.main.body.getD i (.Pass ⟨0, 0, 0, 0⟩)
abbrev s_is_integer : Stmt := topS 1
abbrev n_is_integer : List Str := ["thing"]
theorem sc_is_integer : FnScope n_is_integer ["thing"] (defScope s_is_integer) := ⟨rfl, rfl, rfl, by decide +kernel, rfl, by decide +kernel, by decide +kernel⟩
abbrev s_is_tuple : Stmt := topS 3
abbrev n_is_tuple : List Str := ["thing", "low", "high"]
theorem sc_is_tuple : FnScope n_is_tuple ["thing", "low", "high"] (defScope s_is_tuple) := ⟨rfl, rfl, rfl, by decide +kernel, rfl, by decide +kernel, by decide +kernel⟩
abbrev s_rated_between : Stmt := topS 23
abbrev n_rated_between : List Str := ["hours", "first", "last", "rate", "hour"]
theorem sc_rated_between : FnScope n_rated_between ["hours", "first", "last", "rate"] (defScope s_rated_between) := ⟨rfl, rfl, rfl, by decide +kernel, rfl, by decide +kernel, by decide +kernel⟩
abbrev s_summed_from : Stmt := topS 24
abbrev n_summed_from : List Str := ["hours", "last", "before", "behind", "hour"]
theorem sc_summed_from : FnScope n_summed_from ["hours", "last", "before", "behind"] (defScope s_summed_from) := ⟨rfl, rfl, rfl, by decide +kernel, rfl, by decide +kernel, by decide +kernel⟩
abbrev s_plain_of : Stmt := topS 31
abbrev n_plain_of : List Str := ["plan", "sums", "level", "amount"]
theorem sc_plain_of : FnScope n_plain_of ["plan"] (defScope s_plain_of) := ⟨rfl, rfl, rfl, by decide +kernel, rfl, by decide +kernel, by decide +kernel⟩
abbrev s__law_hand : Stmt := topS 34
abbrev n__law_hand : List Str := ["script", "cell", "cells"]
theorem sc__law_hand : FnScope n__law_hand ["script"] (defScope s__law_hand) := ⟨rfl, rfl, rfl, by decide +kernel, rfl, by decide +kernel, by decide +kernel⟩
abbrev s__law_draw : Stmt := topS 35
abbrev n__law_draw : List Str := ["hand", "many", "cell", "digit", "number"]
theorem sc__law_draw : FnScope n__law_draw ["hand", "many"] (defScope s__law_draw) := ⟨rfl, rfl, rfl, by decide +kernel, rfl, by decide +kernel, by decide +kernel⟩
abbrev s__law_is : Stmt := topS 37
abbrev n__law_is : List Str := ["told", "due"]
theorem sc__law_is : FnScope n__law_is ["told", "due"] (defScope s__law_is) := ⟨rfl, rfl, rfl, by decide +kernel, rfl, by decide +kernel, by decide +kernel⟩
abbrev s__law_plans : Stmt := topS 38
abbrev n__law_plans : List Str := ["thing", "rates", "sums", "found", "hour", "low", "high", "later", "plan", "level", "amount"]
theorem sc__law_plans : FnScope n__law_plans ["thing"] (defScope s__law_plans) := ⟨rfl, rfl, rfl, by decide +kernel, rfl, by decide +kernel, by decide +kernel⟩
abbrev s__law_rows : Stmt := topS 39
abbrev n__law_rows : List Str := ["low", "high", "hours", "found", "hour", "later", "row", "amount"]
theorem sc__law_rows : FnScope n__law_rows ["low", "high", "hours"] (defScope s__law_rows) := ⟨rfl, rfl, rfl, by decide +kernel, rfl, by decide +kernel, by decide +kernel⟩
abbrev s_is_within : Stmt := topS 2
abbrev n_is_within : List Str := ["thing", "low", "high"]
theorem sc_is_within : FnScope n_is_within ["thing", "low", "high"] (defScope s_is_within) := ⟨rfl, rfl, rfl, by decide +kernel, rfl, by decide +kernel, by decide +kernel⟩
abbrev s__law_any : Stmt := topS 36
abbrev n__law_any : List Str := ["hand", "some"]
theorem sc__law_any : FnScope n__law_any ["hand", "some"] (defScope s__law_any) := ⟨rfl, rfl, rfl, by decide +kernel, rfl, by decide +kernel, by decide +kernel⟩
abbrev s_are_integers : Stmt := topS 4
abbrev n_are_integers : List Str := ["thing", "many", "low", "high", "one"]
theorem sc_are_integers : FnScope n_are_integers ["thing", "many", "low", "high"] (defScope s_are_integers) := ⟨rfl, rfl, rfl, by decide +kernel, rfl, by decide +kernel, by decide +kernel⟩
abbrev s_is_hours : Stmt := topS 17
abbrev n_is_hours : List Str := ["thing"]
theorem sc_is_hours : FnScope n_is_hours ["thing"] (defScope s_is_hours) := ⟨rfl, rfl, rfl, by decide +kernel, rfl, by decide +kernel, by decide +kernel⟩
abbrev s_is_rate : Stmt := topS 22
abbrev n_is_rate : List Str := ["thing"]
theorem sc_is_rate : FnScope n_is_rate ["thing"] (defScope s_is_rate) := ⟨rfl, rfl, rfl, by decide +kernel, rfl, by decide +kernel, by decide +kernel⟩
abbrev s_is_room : Stmt := topS 26
abbrev n_is_room : List Str := ["thing"]
theorem sc_is_room : FnScope n_is_room ["thing"] (defScope s_is_room) := ⟨rfl, rfl, rfl, by decide +kernel, rfl, by decide +kernel, by decide +kernel⟩
abbrev s_check_hours : Stmt := topS 18
abbrev n_check_hours : List Str := ["hours"]
theorem sc_check_hours : FnScope n_check_hours ["hours"] (defScope s_check_hours) := ⟨rfl, rfl, rfl, by decide +kernel, rfl, by decide +kernel, by decide +kernel⟩
abbrev s_are_draws : Stmt := topS 27
abbrev n_are_draws : List Str := ["hours", "thing"]
theorem sc_are_draws : FnScope n_are_draws ["hours", "thing"] (defScope s_are_draws) := ⟨rfl, rfl, rfl, by decide +kernel, rfl, by decide +kernel, by decide +kernel⟩
abbrev s_car_thing : Stmt := topS 25
abbrev n_car_thing : List Str := ["hours", "come", "leave", "rate", "least", "most"]
theorem sc_car_thing : FnScope n_car_thing ["hours", "come", "leave", "rate", "least", "most"] (defScope s_car_thing) := ⟨rfl, rfl, rfl, by decide +kernel, rfl, by decide +kernel, by decide +kernel⟩
abbrev s_boiler_thing : Stmt := topS 28
abbrev n_boiler_thing : List Str := ["hours", "start", "low", "high", "draws", "rate", "one", "sums", "drawn", "draw"]
theorem sc_boiler_thing : FnScope n_boiler_thing ["hours", "start", "low", "high", "draws", "rate"] (defScope s_boiler_thing) := ⟨rfl, rfl, rfl, by decide +kernel, rfl, by decide +kernel, by decide +kernel⟩
abbrev s_store_thing : Stmt := topS 29
abbrev n_store_thing : List Str := ["hours", "start", "room", "into", "out", "last", "sums"]
theorem sc_store_thing : FnScope n_store_thing ["hours", "start", "room", "into", "out", "last"] (defScope s_store_thing) := ⟨rfl, rfl, rfl, by decide +kernel, rfl, by decide +kernel, by decide +kernel⟩
abbrev s_run_thing : Stmt := topS 30
abbrev n_run_thing : List Str := ["hours", "first", "last", "amount", "rate"]
theorem sc_run_thing : FnScope n_run_thing ["hours", "first", "last", "amount", "rate"] (defScope s_run_thing) := ⟨rfl, rfl, rfl, by decide +kernel, rfl, by decide +kernel, by decide +kernel⟩
abbrev s_plain_thing : Stmt := topS 32
abbrev n_plain_thing : List Str := ["hours", "plan"]
theorem sc_plain_thing : FnScope n_plain_thing ["hours", "plan"] (defScope s_plain_thing) := ⟨rfl, rfl, rfl, by decide +kernel, rfl, by decide +kernel, by decide +kernel⟩
abbrev s__law_car : Stmt := topS 40
abbrev n__law_car : List Str := ["hand", "hours", "come", "leave", "rate", "least_so", "most_so", "hour", "rates", "sums", "told", "due", "row", "amount", "away"]
theorem sc__law_car : FnScope n__law_car ["hand", "hours"] (defScope s__law_car) := ⟨rfl, rfl, rfl, by decide +kernel, rfl, by decide +kernel, by decide +kernel⟩
abbrev s__law_boiler : Stmt := topS 41
abbrev n__law_boiler : List Str := ["hand", "hours", "low", "high", "start", "rate", "hour", "draws", "gone", "more", "sums", "told", "due", "row", "content", "is_let", "amount"]
theorem sc__law_boiler : FnScope n__law_boiler ["hand", "hours"] (defScope s__law_boiler) := ⟨rfl, rfl, rfl, by decide +kernel, rfl, by decide +kernel, by decide +kernel⟩
abbrev s__law_store : Stmt := topS 42
abbrev n__law_store : List Str := ["hand", "hours", "room", "start", "last", "into_so", "out", "ends_so", "sums", "told", "due", "row", "hour", "contents_so", "content"]
theorem sc__law_store : FnScope n__law_store ["hand", "hours"] (defScope s__law_store) := ⟨rfl, rfl, rfl, by decide +kernel, rfl, by decide +kernel, by decide +kernel⟩
abbrev s__law_run : Stmt := topS 43
abbrev n__law_run : List Str := ["hand", "hours", "first", "last", "rate", "amount", "hour", "rates", "sums", "told", "due", "row", "one", "away"]
theorem sc__law_run : FnScope n__law_run ["hand", "hours"] (defScope s__law_run) := ⟨rfl, rfl, rfl, by decide +kernel, rfl, by decide +kernel, by decide +kernel⟩
abbrev s__law_plain : Stmt := topS 44
abbrev n__law_plain : List Str := ["hand", "hours", "hour", "plan", "levels", "one", "due"]
theorem sc__law_plain : FnScope n__law_plain ["hand", "hours"] (defScope s__law_plain) := ⟨rfl, rfl, rfl, by decide +kernel, rfl, by decide +kernel, by decide +kernel⟩
abbrev s_law : Stmt := topS 45
abbrev n_law : List Str := ["script", "hand", "turn", "hours"]
theorem sc_law : FnScope n_law ["script"] (defScope s_law) := ⟨rfl, rfl, rfl, by decide +kernel, rfl, by decide +kernel, by decide +kernel⟩
def b_is_integer : DS := dRet (dAndV (dIsi "int" (dVar 0)) (dNotV (dIsi "bool" (dVar 0))))
def sem_is_integer : DR := fun ds M P => match ds with
  | [x0] => b_is_integer { nx := fun _ M' => P .non (mcut M M'), rt := fun d M' => P d (mcut M M') } [some x0] M
  | _ => False
def b_is_tuple : DS := dRet (dAndV (dIsi "tuple" (dVar 0)) (dChain rLe rLe (dVar 1) (dCB rLen (dCons (dVar 0) dNil)) (dVar 2)))
def sem_is_tuple : DR := fun ds M P => match ds with
  | [x0, x1, x2] => b_is_tuple { nx := fun _ M' => P .non (mcut M M'), rt := fun d M' => P d (mcut M M') } [some x0, some x1, some x2] M
  | _ => False
def b_rated_between : DS := dRet (dCB rToTup (dCons (dFz (dLc (dRange1 (dVar 0)) (dgName 4) (dYes) (dIf (dTest (dChain rLe rLe (dVar 1) (dVar 4) (dVar 2))) (dTup (dCons (dC (.int 0)) (dCons (dVar 3) (dNil)))) (dTup (dCons (dC (.int 0)) (dCons (dC (.int 0)) (dNil))))) [4])) dNil))
def sem_rated_between : DR := fun ds M P => match ds with
  | [x0, x1, x2, x3] => b_rated_between { nx := fun _ M' => P .non (mcut M M'), rt := fun d M' => P d (mcut M M') } [some x0, some x1, some x2, some x3, none] M
  | _ => False
def b_summed_from : DS := dRet (dCB rToTup (dCons (dFz (dLc (dRange1 (dVar 0)) (dgName 4) (dYes) (dIf (dTest (dOp rGe (dVar 4) (dVar 1))) (dVar 3) (dVar 2)) [4])) dNil))
def sem_summed_from : DR := fun ds M P => match ds with
  | [x0, x1, x2, x3] => b_summed_from { nx := fun _ M' => P .non (mcut M M'), rt := fun d M' => P d (mcut M M') } [some x0, some x1, some x2, some x3, none] M
  | _ => False
def b_plain_of : DS := dSeq (dPar2 1 2 (dCons (dLst (dNil)) (dCons (dC (.int 0)) (dNil))))
    (dSeq (dFor (dSeqI (dVar 0)) (dgName 3) (dSeq (dSet 2 (dOp rAdd (dVar 2) (dVar 3)))
    (dExpr (dAppend (dVar 1) (dTup (dCons (dVar 2) (dCons (dVar 2) (dNil))))))))
    (dRet (dTup (dCons (dCB rToTup (dCons (dFz (dLc (dSeqI (dVar 0)) (dgName 3) (dYes) (dTup (dCons (dVar 3) (dCons (dVar 3) (dNil)))) [3])) dNil)) (dCons (dCB rToTup (dCons (dVar 1) dNil)) (dNil))))))
def sem_plain_of : DR := fun ds M P => match ds with
  | [x0] => b_plain_of { nx := fun _ M' => P .non (mcut M M'), rt := fun d M' => P d (mcut M M') } [some x0, none, none, none] M
  | _ => False
def b__law_hand : DS := dSeq (dSet 2 (dFz (dLc (dSeqI (dFz (dSl (dVar 0) dNoPart (dPart (dC (.int 60)))))) (dgName 1) (dYes) (dOp rMod (dCB rToInt (dCons (dCB rAbs (dCons (dCB rToInt (dCons (dVar 1) dNil)) dNil)) dNil)) (dOp rPow (dC (.int 10)) (dC (.int 40)))) [1])))
    (dRet (dLst (dCons (dVar 2) (dCons (dC (.int 0)) (dCons (dC (.int 0)) (dCons (dOp rAdd (dC (.int 237050)) (dOp rMul (dC (.int 31)) (dCB rLen (dCons (dVar 2) dNil)))) (dCons (dC (.int 0)) (dNil))))))))
def sem__law_hand : DR := fun ds M P => match ds with
  | [x0] => b__law_hand { nx := fun _ M' => P .non M', rt := fun d M' => P d M' } [some x0, none, none] M
  | _ => False
def b__law_draw : DS := dSeq (dIfS (dAnd (dTest (dOp rEq (dOp rAt (dVar 0) (dC (.int 2))) (dC (.int 0)))) (dTest (dOp rLt (dOp rAt (dVar 0) (dC (.int 1))) (dCB rLen (dCons (dOp rAt (dVar 0) (dC (.int 0))) dNil))))) (dSeq (dSet 2 (dOp rAt (dOp rAt (dVar 0) (dC (.int 0))) (dOp rAt (dVar 0) (dC (.int 1)))))
    (dSeq (dStore (dVar 0) (dC (.int 1)) (dOp rAdd (dOp rAt (dVar 0) (dC (.int 1))) (dC (.int 1))))
    (dSeq (dStore (dVar 0) (dC (.int 3)) (dOp rMod (dCB rToInt (dCons (dOp rAdd (dOp rAdd (dOp rMul (dOp rAt (dVar 0) (dC (.int 3))) (dC (.int 69621))) (dVar 2)) (dC (.int 71))) dNil)) (dC (.int 2147483629))))
    (dIfS (dTest (dOp rGe (dVar 2) (dOp rPow (dC (.int 10)) (dC (.int 18))))) (dStore (dVar 0) (dC (.int 2)) (dVar 2)) (dNext))))) (dNext))
    (dSeq (dIfS (dTest (dOp rGt (dOp rAt (dVar 0) (dC (.int 2))) (dC (.int 0)))) (dSeq (dSet 3 (dOp rMod (dCB rToInt (dCons (dOp rAt (dVar 0) (dC (.int 2))) dNil)) (dVar 1)))
    (dSeq (dStore (dVar 0) (dC (.int 2)) (dOp rDiv (dOp rAt (dVar 0) (dC (.int 2))) (dVar 1)))
    (dRet (dVar 3)))) (dNext))
    (dSeq (dStore (dVar 0) (dC (.int 4)) (dOp rAdd (dOp rAt (dVar 0) (dC (.int 4))) (dC (.int 1))))
    (dSeq (dSet 4 (dOp rMod (dCB rToInt (dCons (dOp rMul (dCB rToInt (dCons (dOp rAdd (dOp rAt (dVar 0) (dC (.int 3))) (dOp rMul (dC (.int 7919)) (dOp rAt (dVar 0) (dC (.int 4))))) dNil)) (dC (.int 48271))) dNil)) (dC (.int 2147483647))))
    (dSeq (dSet 4 (dOp rMod (dCB rToInt (dCons (dOp rMul (dVar 4) (dOp rAdd (dOp rDiv (dVar 4) (dC (.int 1009))) (dC (.int 69621)))) dNil)) (dC (.int 2147483647))))
    (dSeq (dSet 4 (dOp rMod (dCB rToInt (dCons (dOp rMul (dVar 4) (dOp rAdd (dOp rDiv (dVar 4) (dC (.int 2003))) (dC (.int 40692)))) dNil)) (dC (.int 2147483399))))
    (dRet (dOp rMod (dCB rToInt (dCons (dOp rDiv (dVar 4) (dC (.int 16))) dNil)) (dVar 1))))))))
def sem__law_draw : DR := fun ds M P => match ds with
  | [x0, x1] => b__law_draw { nx := fun _ M' => P .non (mcut M M'), rt := fun d M' => P d (mcut M M') } [some x0, some x1, none, none, none] M
  | _ => False
def b__law_is : DS := dRet (dOp rEq (dCB rRepr (dCons (dVar 0) dNil)) (dCB rRepr (dCons (dVar 1) dNil)))
def sem__law_is : DR := fun ds M P => match ds with
  | [x0, x1] => b__law_is { nx := fun _ M' => P .non (mcut M M'), rt := fun d M' => P d (mcut M M') } [some x0, some x1] M
  | _ => False
def b__law_plans : DS := dSeq (dAsg (dVar 0) (dgTup 2 (dgCons (dgName 1) (dgCons (dgName 2) (dgNil)))))
    (dSeq (dSet 3 (dFz (dLst (dCons (dTup (dCons (dTup (dNil)) (dCons (dC (.int 0)) (dNil)))) (dNil)))))
    (dSeq (dFor (dEnumI (dVar 1)) (dgTup 2 (dgCons (dgName 4) (dgCons (dgTup 2 (dgCons (dgName 5) (dgCons (dgName 6) (dgNil)))) (dgNil)))) (dSeq (dSet 7 (dLst (dNil)))
    (dSeq (dFor (dSeqI (dVar 3)) (dgTup 2 (dgCons (dgName 8) (dgCons (dgName 9) (dgNil)))) (dFor (dRange2 (dVar 5) (dOp rAdd (dVar 6) (dC (.int 1)))) (dgName 10) (dIfS (dTest (dChain rLe rLe (dOp rAt (dOp rAt (dVar 2) (dVar 4)) (dC (.int 0))) (dOp rAdd (dVar 9) (dVar 10)) (dOp rAt (dOp rAt (dVar 2) (dVar 4)) (dC (.int 1))))) (dExpr (dAppend (dVar 7) (dTup (dCons (dOp rAdd (dVar 8) (dTup (dCons (dVar 10) (dNil)))) (dCons (dOp rAdd (dVar 9) (dVar 10)) (dNil)))))) (dNext))))
    (dSet 3 (dFz (dVar 7))))))
    (dRet (dFz (dLc (dSeqI (dVar 3)) (dgTup 2 (dgCons (dgName 8) (dgCons (dgName 9) (dgNil)))) (dYes) (dVar 8) [8, 9])))))
def sem__law_plans : DR := fun ds M P => match ds with
  | [x0] => b__law_plans { nx := fun _ M' => P .non (mcut M M'), rt := fun d M' => P d (mcut M M') } [some x0, none, none, none, none, none, none, none, none, none, none] M
  | _ => False
def b__law_rows : DS := dSeq (dSet 3 (dFz (dLst (dCons (dTup (dNil)) (dNil)))))
    (dSeq (dFor (dRange1 (dVar 2)) (dgName 4) (dSeq (dSet 5 (dLst (dNil)))
    (dSeq (dFor (dSeqI (dVar 3)) (dgName 6) (dExpr (dExtend (dVar 5) (dFz (dLc (dRange2 (dVar 0) (dOp rAdd (dVar 1) (dC (.int 1)))) (dgName 7) (dYes) (dOp rAdd (dVar 6) (dTup (dCons (dVar 7) (dNil)))) [7])))))
    (dSet 3 (dFz (dVar 5))))))
    (dRet (dVar 3)))
def sem__law_rows : DR := fun ds M P => match ds with
  | [x0, x1, x2] => b__law_rows { nx := fun _ M' => P .non (mcut M M'), rt := fun d M' => P d (mcut M M') } [some x0, some x1, some x2, none, none, none, none, none] M
  | _ => False
def b_is_within : DS := dRet (dAndV (dCB sem_is_integer (dCons (dVar 0) (dNil))) (dChain rLe rLe (dVar 1) (dVar 0) (dVar 2)))
def sem_is_within : DR := fun ds M P => match ds with
  | [x0, x1, x2] => b_is_within { nx := fun _ M' => P .non (mcut M M'), rt := fun d M' => P d (mcut M M') } [some x0, some x1, some x2] M
  | _ => False
def b__law_any : DS := dRet (dOp rAt (dVar 1) (dCB sem__law_draw (dCons (dVar 0) (dCons (dCB rLen (dCons (dVar 1) dNil)) (dNil)))))
def sem__law_any : DR := fun ds M P => match ds with
  | [x0, x1] => b__law_any { nx := fun _ M' => P .non (mcut M M'), rt := fun d M' => P d (mcut M M') } [some x0, some x1] M
  | _ => False
def b_are_integers : DS := dRet (dAndV (dCB sem_is_tuple (dCons (dVar 0) (dCons (dVar 1) (dCons (dVar 1) (dNil))))) (dCB rAllD (dCons (dFz (dLc (dSeqI (dVar 0)) (dgName 4) (dYes) (dCB sem_is_within (dCons (dVar 4) (dCons (dVar 2) (dCons (dVar 3) (dNil))))) [4])) dNil)))
def sem_are_integers : DR := fun ds M P => match ds with
  | [x0, x1, x2, x3] => b_are_integers { nx := fun _ M' => P .non (mcut M M'), rt := fun d M' => P d (mcut M M') } [some x0, some x1, some x2, some x3, none] M
  | _ => False
def b_is_hours : DS := dRet (dCB sem_is_within (dCons (dVar 0) (dCons (dC (.int 1)) (dCons (dC (.int 6)) (dNil)))))
def sem_is_hours : DR := fun ds M P => match ds with
  | [x0] => b_is_hours { nx := fun _ M' => P .non (mcut M M'), rt := fun d M' => P d (mcut M M') } [some x0] M
  | _ => False
def b_is_rate : DS := dRet (dCB sem_is_within (dCons (dVar 0) (dCons (dC (.int 0)) (dCons (dC (.int 9)) (dNil)))))
def sem_is_rate : DR := fun ds M P => match ds with
  | [x0] => b_is_rate { nx := fun _ M' => P .non (mcut M M'), rt := fun d M' => P d (mcut M M') } [some x0] M
  | _ => False
def b_is_room : DS := dRet (dCB sem_is_within (dCons (dVar 0) (dCons (dC (.int 0)) (dCons (dC (.int 40)) (dNil)))))
def sem_is_room : DR := fun ds M P => match ds with
  | [x0] => b_is_room { nx := fun _ M' => P .non (mcut M M'), rt := fun d M' => P d (mcut M M') } [some x0] M
  | _ => False
def b_check_hours : DS := dIfS (dNot (dTest (dCB sem_is_hours (dCons (dVar 0) (dNil))))) (dNever) (dNext)
def sem_check_hours : DR := fun ds M P => match ds with
  | [x0] => b_check_hours { nx := fun _ M' => P .non (mcut M M'), rt := fun d M' => P d (mcut M M') } [some x0] M
  | _ => False
def b_are_draws : DS := dRet (dCB sem_are_integers (dCons (dVar 1) (dCons (dVar 0) (dCons (dC (.int 0)) (dCons (dC (.int 9)) (dNil))))))
def sem_are_draws : DR := fun ds M P => match ds with
  | [x0, x1] => b_are_draws { nx := fun _ M' => P .non (mcut M M'), rt := fun d M' => P d (mcut M M') } [some x0, some x1] M
  | _ => False
def b_car_thing : DS := dSeq (dExpr (dCB sem_check_hours (dCons (dVar 0) (dNil))))
    (dSeq (dIfS (dOr (dNot (dTest (dCB sem_is_within (dCons (dVar 1) (dCons (dC (.int 0)) (dCons (dOp rSub (dVar 0) (dC (.int 1))) (dNil))))))) (dOr (dNot (dTest (dCB sem_is_within (dCons (dVar 2) (dCons (dOp rAdd (dVar 1) (dC (.int 1))) (dCons (dVar 0) (dNil))))))) (dNot (dTest (dCB sem_is_rate (dCons (dVar 3) (dNil))))))) (dNever) (dNext))
    (dSeq (dIfS (dOr (dNot (dTest (dCB sem_is_within (dCons (dVar 5) (dCons (dC (.int 0)) (dCons (dC (.int 99)) (dNil))))))) (dNot (dTest (dCB sem_is_within (dCons (dVar 4) (dCons (dC (.int 0)) (dCons (dVar 5) (dNil)))))))) (dNever) (dNext))
    (dRet (dTup (dCons (dCB sem_rated_between (dCons (dVar 0) (dCons (dVar 1) (dCons (dOp rSub (dVar 2) (dC (.int 1))) (dCons (dVar 3) (dNil)))))) (dCons (dCB sem_summed_from (dCons (dVar 0) (dCons (dOp rSub (dVar 2) (dC (.int 1))) (dCons (dTup (dCons (dC (.int 0)) (dCons (dVar 5) (dNil)))) (dCons (dTup (dCons (dVar 4) (dCons (dVar 5) (dNil)))) (dNil)))))) (dNil)))))))
def sem_car_thing : DR := fun ds M P => match ds with
  | [x0, x1, x2, x3, x4, x5] => b_car_thing { nx := fun _ M' => P .non (mcut M M'), rt := fun d M' => P d (mcut M M') } [some x0, some x1, some x2, some x3, some x4, some x5] M
  | _ => False
def b_boiler_thing : DS := dSeq (dExpr (dCB sem_check_hours (dCons (dVar 0) (dNil))))
    (dSeq (dIfS (dOr (dNot (dTest (dCB rAllD (dCons (dFz (dLc (dSeqI (dTup (dCons (dVar 1) (dCons (dVar 2) (dCons (dVar 3) (dNil)))))) (dgName 6) (dYes) (dCB sem_is_room (dCons (dVar 6) (dNil))) [6])) dNil)))) (dTest (dOp rGt (dVar 2) (dVar 3)))) (dNever) (dNext))
    (dSeq (dIfS (dOr (dNot (dTest (dCB sem_are_draws (dCons (dVar 0) (dCons (dVar 4) (dNil)))))) (dNot (dTest (dCB sem_is_rate (dCons (dVar 5) (dNil)))))) (dNever) (dNext))
    (dSeq (dPar2 7 8 (dCons (dLst (dNil)) (dCons (dC (.int 0)) (dNil))))
    (dSeq (dFor (dSeqI (dVar 4)) (dgName 9) (dSeq (dSet 8 (dOp rAdd (dVar 8) (dVar 9)))
    (dExpr (dAppend (dVar 7) (dTup (dCons (dOp rAdd (dOp rSub (dVar 2) (dVar 1)) (dVar 8)) (dCons (dOp rAdd (dOp rSub (dVar 3) (dVar 1)) (dVar 8)) (dNil))))))))
    (dRet (dTup (dCons (dOp rMul (dTup (dCons (dTup (dCons (dC (.int 0)) (dCons (dVar 5) (dNil)))) (dNil))) (dVar 0)) (dCons (dCB rToTup (dCons (dVar 7) dNil)) (dNil)))))))))
def sem_boiler_thing : DR := fun ds M P => match ds with
  | [x0, x1, x2, x3, x4, x5] => b_boiler_thing { nx := fun _ M' => P .non (mcut M M'), rt := fun d M' => P d (mcut M M') } [some x0, some x1, some x2, some x3, some x4, some x5, none, none, none, none] M
  | _ => False
def b_store_thing : DS := dSeq (dExpr (dCB sem_check_hours (dCons (dVar 0) (dNil))))
    (dSeq (dIfS (dOr (dNot (dTest (dCB sem_is_room (dCons (dVar 2) (dNil))))) (dOr (dNot (dTest (dCB sem_is_within (dCons (dVar 1) (dCons (dC (.int 0)) (dCons (dVar 2) (dNil))))))) (dNot (dTest (dCB sem_is_within (dCons (dVar 5) (dCons (dC (.int 0)) (dCons (dVar 2) (dNil))))))))) (dNever) (dNext))
    (dSeq (dIfS (dOr (dNot (dTest (dCB sem_is_rate (dCons (dVar 3) (dNil))))) (dNot (dTest (dCB sem_is_rate (dCons (dVar 4) (dNil)))))) (dNever) (dNext))
    (dSeq (dSet 6 (dCB sem_summed_from (dCons (dVar 0) (dCons (dOp rSub (dVar 0) (dC (.int 1))) (dCons (dTup (dCons (dOp rSub (dC (.int 0)) (dVar 1)) (dCons (dOp rSub (dVar 2) (dVar 1)) (dNil)))) (dCons (dTup (dCons (dOp rSub (dVar 5) (dVar 1)) (dCons (dOp rSub (dVar 2) (dVar 1)) (dNil)))) (dNil)))))))
    (dRet (dTup (dCons (dOp rMul (dTup (dCons (dTup (dCons (dOp rSub (dC (.int 0)) (dVar 4)) (dCons (dVar 3) (dNil)))) (dNil))) (dVar 0)) (dCons (dVar 6) (dNil))))))))
def sem_store_thing : DR := fun ds M P => match ds with
  | [x0, x1, x2, x3, x4, x5] => b_store_thing { nx := fun _ M' => P .non (mcut M M'), rt := fun d M' => P d (mcut M M') } [some x0, some x1, some x2, some x3, some x4, some x5, none] M
  | _ => False
def b_run_thing : DS := dSeq (dExpr (dCB sem_check_hours (dCons (dVar 0) (dNil))))
    (dSeq (dIfS (dOr (dNot (dTest (dCB sem_is_within (dCons (dVar 1) (dCons (dC (.int 0)) (dCons (dOp rSub (dVar 0) (dC (.int 1))) (dNil))))))) (dNot (dTest (dCB sem_is_within (dCons (dVar 2) (dCons (dVar 1) (dCons (dOp rSub (dVar 0) (dC (.int 1))) (dNil)))))))) (dNever) (dNext))
    (dSeq (dIfS (dOr (dNot (dTest (dCB sem_is_within (dCons (dVar 3) (dCons (dC (.int 0)) (dCons (dC (.int 54)) (dNil))))))) (dNot (dTest (dCB sem_is_rate (dCons (dVar 4) (dNil)))))) (dNever) (dNext))
    (dRet (dTup (dCons (dCB sem_rated_between (dCons (dVar 0) (dCons (dVar 1) (dCons (dVar 2) (dCons (dVar 4) (dNil)))))) (dCons (dCB sem_summed_from (dCons (dVar 0) (dCons (dVar 2) (dCons (dTup (dCons (dC (.int 0)) (dCons (dVar 3) (dNil)))) (dCons (dTup (dCons (dVar 3) (dCons (dVar 3) (dNil)))) (dNil)))))) (dNil)))))))
def sem_run_thing : DR := fun ds M P => match ds with
  | [x0, x1, x2, x3, x4] => b_run_thing { nx := fun _ M' => P .non (mcut M M'), rt := fun d M' => P d (mcut M M') } [some x0, some x1, some x2, some x3, some x4] M
  | _ => False
def b_plain_thing : DS := dSeq (dExpr (dCB sem_check_hours (dCons (dVar 0) (dNil))))
    (dSeq (dIfS (dNot (dTest (dCB sem_are_integers (dCons (dVar 1) (dCons (dVar 0) (dCons (dOp rSub (dC (.int 0)) (dC (.int 9))) (dCons (dC (.int 9)) (dNil)))))))) (dNever) (dNext))
    (dRet (dCB sem_plain_of (dCons (dVar 1) (dNil)))))
def sem_plain_thing : DR := fun ds M P => match ds with
  | [x0, x1] => b_plain_thing { nx := fun _ M' => P .non (mcut M M'), rt := fun d M' => P d (mcut M M') } [some x0, some x1] M
  | _ => False
def b__law_car : DS := dSeq (dSet 2 (dCB sem__law_draw (dCons (dVar 0) (dCons (dVar 1) (dNil)))))
    (dSeq (dSet 3 (dOp rAdd (dOp rAdd (dVar 2) (dC (.int 1))) (dCB sem__law_draw (dCons (dVar 0) (dCons (dOp rSub (dVar 1) (dVar 2)) (dNil))))))
    (dSeq (dParN (dCons (dCB sem__law_draw (dCons (dVar 0) (dCons (dC (.int 10)) (dNil)))) (dCons (dCB sem__law_any (dCons (dVar 0) (dCons (dFz (dLst (dCons (dC (.int 0)) (dCons (dC (.int 1)) (dCons (dCB sem__law_draw (dCons (dVar 0) (dCons (dC (.int 12)) (dNil)))) (dCons (dCB sem__law_draw (dCons (dVar 0) (dCons (dC (.int 100)) (dNil)))) (dNil))))))) (dNil)))) (dNil))) (dgCons (dgName 4) (dgCons (dgName 5) (dgNil))))
    (dSeq (dSet 6 (dCB rMin2 (dCons (dC (.int 99)) (dCons (dOp rAdd (dVar 5) (dCB sem__law_any (dCons (dVar 0) (dCons (dFz (dLst (dCons (dC (.int 0)) (dCons (dC (.int 1)) (dCons (dC (.int 5)) (dCons (dC (.int 99)) (dNil))))))) (dNil))))) dNil))))
    (dSeq (dSet 8 (dCB rToTup (dCons (dFz (dLc (dRange1 (dVar 1)) (dgName 7) (dYes) (dIf (dTest (dChain rLe rLt (dVar 2) (dVar 7) (dVar 3))) (dTup (dCons (dC (.int 0)) (dCons (dVar 4) (dNil)))) (dTup (dCons (dC (.int 0)) (dCons (dC (.int 0)) (dNil))))) [7])) dNil)))
    (dSeq (dSet 9 (dCB rToTup (dCons (dFz (dLc (dRange1 (dVar 1)) (dgName 7) (dYes) (dTup (dCons (dIf (dTest (dOp rGe (dVar 7) (dOp rSub (dVar 3) (dC (.int 1))))) (dVar 5) (dC (.int 0))) (dCons (dVar 6) (dNil)))) [7])) dNil)))
    (dSeq (dSet 10 (dCB sem_car_thing (dCons (dVar 1) (dCons (dVar 2) (dCons (dVar 3) (dCons (dVar 4) (dCons (dVar 5) (dCons (dVar 6) (dNil)))))))))
    (dSeq (dIfS (dNot (dTest (dCB sem__law_is (dCons (dVar 10) (dCons (dTup (dCons (dVar 8) (dCons (dVar 9) (dNil)))) (dNil)))))) (dRet (dC (.bl false))) (dNext))
    (dSeq (dIfS (dTest (dOp rGt (dVar 1) (dC (.int 3)))) (dRet (dC (.bl true))) (dNext))
    (dSeq (dSet 11 (dLst (dNil)))
    (dSeq (dFor (dSeqI (dCB sem__law_rows (dCons (dC (.int 0)) (dCons (dVar 4) (dCons (dVar 1) (dNil)))))) (dgName 12) (dSeq (dSet 14 (dFz (dLc (dEnumI (dVar 12)) (dgTup 2 (dgCons (dgName 7) (dgCons (dgName 13) (dgNil)))) (dNot (dTest (dChain rLe rLt (dVar 2) (dVar 7) (dVar 3)))) (dVar 13) [7, 13])))
    (dIfS (dAnd (dTest (dOp rEq (dCB rSumD (dCons (dVar 14) dNil)) (dC (.int 0)))) (dTest (dChain rLe rLe (dVar 5) (dCB rSumD (dCons (dVar 12) dNil)) (dVar 6)))) (dExpr (dAppend (dVar 11) (dVar 12))) (dNext))))
    (dRet (dOp rEq (dCB sem__law_plans (dCons (dVar 10) (dNil))) (dVar 11)))))))))))))
def sem__law_car : DR := fun ds M P => match ds with
  | [x0, x1] => b__law_car { nx := fun _ M' => P .non (mcut M M'), rt := fun d M' => P d (mcut M M') } [some x0, some x1, none, none, none, none, none, none, none, none, none, none, none, none, none] M
  | _ => False
def b__law_boiler : DS := dSeq (dSet 2 (dCB sem__law_draw (dCons (dVar 0) (dCons (dC (.int 41)) (dNil)))))
    (dSeq (dSet 3 (dOp rAdd (dVar 2) (dCB sem__law_any (dCons (dVar 0) (dCons (dFz (dLst (dCons (dC (.int 0)) (dCons (dCB rMin2 (dCons (dC (.int 3)) (dCons (dOp rSub (dC (.int 40)) (dVar 2)) dNil))) (dCons (dOp rSub (dC (.int 40)) (dVar 2)) (dNil)))))) (dNil))))))
    (dSeq (dParN (dCons (dCB sem__law_any (dCons (dVar 0) (dCons (dFz (dLst (dCons (dVar 2) (dCons (dVar 3) (dCons (dCB sem__law_draw (dCons (dVar 0) (dCons (dC (.int 41)) (dNil)))) (dNil)))))) (dNil)))) (dCons (dCB sem__law_draw (dCons (dVar 0) (dCons (dC (.int 10)) (dNil)))) (dNil))) (dgCons (dgName 4) (dgCons (dgName 5) (dgNil))))
    (dSeq (dSet 7 (dCB rToTup (dCons (dFz (dLc (dRange1 (dVar 1)) (dgName 6) (dYes) (dCB sem__law_draw (dCons (dVar 0) (dCons (dC (.int 10)) (dNil)))) [6])) dNil)))
    (dSeq (dSet 8 (dFz (dLc (dRange1 (dVar 1)) (dgName 6) (dYes) (dCB rSumD (dCons (dFz (dSl (dVar 7) dNoPart (dPart (dOp rAdd (dVar 6) (dC (.int 1)))))) dNil)) [6])))
    (dSeq (dSet 10 (dCB rToTup (dCons (dFz (dLc (dSeqI (dVar 8)) (dgName 9) (dYes) (dTup (dCons (dOp rAdd (dOp rSub (dVar 2) (dVar 4)) (dVar 9)) (dCons (dOp rAdd (dOp rSub (dVar 3) (dVar 4)) (dVar 9)) (dNil)))) [9])) dNil)))
    (dSeq (dSet 11 (dCB sem_boiler_thing (dCons (dVar 1) (dCons (dVar 4) (dCons (dVar 2) (dCons (dVar 3) (dCons (dVar 7) (dCons (dVar 5) (dNil)))))))))
    (dSeq (dIfS (dNot (dTest (dCB sem__law_is (dCons (dVar 11) (dCons (dTup (dCons (dOp rMul (dTup (dCons (dTup (dCons (dC (.int 0)) (dCons (dVar 5) (dNil)))) (dNil))) (dVar 1)) (dCons (dVar 10) (dNil)))) (dNil)))))) (dRet (dC (.bl false))) (dNext))
    (dSeq (dIfS (dTest (dOp rGt (dVar 1) (dC (.int 3)))) (dRet (dC (.bl true))) (dNext))
    (dSeq (dSet 12 (dLst (dNil)))
    (dSeq (dFor (dSeqI (dCB sem__law_rows (dCons (dC (.int 0)) (dCons (dVar 5) (dCons (dVar 1) (dNil)))))) (dgName 13) (dSeq (dPar2 14 15 (dCons (dVar 4) (dCons (dC (.bl true)) (dNil))))
    (dSeq (dFor (dZipI (dVar 13) (dVar 7)) (dgTup 2 (dgCons (dgName 16) (dgCons (dgName 9) (dgNil)))) (dSeq (dSet 14 (dOp rSub (dOp rAdd (dVar 14) (dVar 16)) (dVar 9)))
    (dSet 15 (dAndV (dVar 15) (dChain rLe rLe (dVar 2) (dVar 14) (dVar 3))))))
    (dExpr (dExtend (dVar 12) (dIf (dTest (dVar 15)) (dFz (dLst (dCons (dVar 13) (dNil)))) (dFz (dLst (dNil)))))))))
    (dRet (dOp rEq (dCB sem__law_plans (dCons (dVar 11) (dNil))) (dVar 12)))))))))))))
def sem__law_boiler : DR := fun ds M P => match ds with
  | [x0, x1] => b__law_boiler { nx := fun _ M' => P .non (mcut M M'), rt := fun d M' => P d (mcut M M') } [some x0, some x1, none, none, none, none, none, none, none, none, none, none, none, none, none, none, none] M
  | _ => False
def b__law_store : DS := dSeq (dSet 2 (dCB sem__law_any (dCons (dVar 0) (dCons (dFz (dLst (dCons (dC (.int 0)) (dCons (dC (.int 1)) (dCons (dC (.int 4)) (dCons (dCB sem__law_draw (dCons (dVar 0) (dCons (dC (.int 41)) (dNil)))) (dCons (dC (.int 40)) (dNil)))))))) (dNil)))))
    (dSeq (dParN (dCons (dCB sem__law_draw (dCons (dVar 0) (dCons (dOp rAdd (dVar 2) (dC (.int 1))) (dNil)))) (dCons (dCB sem__law_any (dCons (dVar 0) (dCons (dFz (dLst (dCons (dC (.int 0)) (dCons (dVar 2) (dCons (dCB sem__law_draw (dCons (dVar 0) (dCons (dOp rAdd (dVar 2) (dC (.int 1))) (dNil)))) (dNil)))))) (dNil)))) (dNil))) (dgCons (dgName 3) (dgCons (dgName 4) (dgNil))))
    (dSeq (dPar2 5 6 (dCons (dCB sem__law_draw (dCons (dVar 0) (dCons (dIf (dTest (dOp rLt (dVar 1) (dC (.int 3)))) (dC (.int 10)) (dC (.int 6))) (dNil)))) (dCons (dCB sem__law_draw (dCons (dVar 0) (dCons (dIf (dTest (dOp rLt (dVar 1) (dC (.int 3)))) (dC (.int 10)) (dC (.int 6))) (dNil)))) (dNil))))
    (dSeq (dSet 7 (dTup (dCons (dTup (dCons (dOp rSub (dVar 4) (dVar 3)) (dCons (dOp rSub (dVar 2) (dVar 3)) (dNil)))) (dNil))))
    (dSeq (dSet 8 (dOp rAdd (dOp rMul (dTup (dCons (dTup (dCons (dOp rSub (dC (.int 0)) (dVar 3)) (dCons (dOp rSub (dVar 2) (dVar 3)) (dNil)))) (dNil))) (dOp rSub (dVar 1) (dC (.int 1)))) (dVar 7)))
    (dSeq (dSet 9 (dCB sem_store_thing (dCons (dVar 1) (dCons (dVar 3) (dCons (dVar 2) (dCons (dVar 5) (dCons (dVar 6) (dCons (dVar 4) (dNil)))))))))
    (dSeq (dIfS (dNot (dTest (dCB sem__law_is (dCons (dVar 9) (dCons (dTup (dCons (dOp rMul (dTup (dCons (dTup (dCons (dOp rSub (dC (.int 0)) (dVar 6)) (dCons (dVar 5) (dNil)))) (dNil))) (dVar 1)) (dCons (dVar 8) (dNil)))) (dNil)))))) (dRet (dC (.bl false))) (dNext))
    (dSeq (dIfS (dTest (dOp rGt (dVar 1) (dC (.int 3)))) (dRet (dC (.bl true))) (dNext))
    (dSeq (dSet 10 (dLst (dNil)))
    (dSeq (dFor (dSeqI (dCB sem__law_rows (dCons (dOp rSub (dC (.int 0)) (dVar 6)) (dCons (dVar 5) (dCons (dVar 1) (dNil)))))) (dgName 11) (dSeq (dSet 13 (dFz (dLc (dRange1 (dVar 1)) (dgName 12) (dYes) (dOp rAdd (dVar 3) (dCB rSumD (dCons (dFz (dSl (dVar 11) dNoPart (dPart (dOp rAdd (dVar 12) (dC (.int 1)))))) dNil))) [12])))
    (dIfS (dAnd (dTest (dCB rAllD (dCons (dFz (dLc (dSeqI (dVar 13)) (dgName 14) (dYes) (dChain rLe rLe (dC (.int 0)) (dVar 14) (dVar 2)) [14])) dNil))) (dTest (dOp rGe (dOp rAt (dVar 13) (dNeg (dC (.int 1)))) (dVar 4)))) (dExpr (dAppend (dVar 10) (dVar 11))) (dNext))))
    (dRet (dOp rEq (dCB sem__law_plans (dCons (dVar 9) (dNil))) (dVar 10))))))))))))
def sem__law_store : DR := fun ds M P => match ds with
  | [x0, x1] => b__law_store { nx := fun _ M' => P .non (mcut M M'), rt := fun d M' => P d (mcut M M') } [some x0, some x1, none, none, none, none, none, none, none, none, none, none, none, none, none] M
  | _ => False
def b__law_run : DS := dSeq (dSet 2 (dCB sem__law_draw (dCons (dVar 0) (dCons (dVar 1) (dNil)))))
    (dSeq (dSet 3 (dOp rAdd (dVar 2) (dCB sem__law_draw (dCons (dVar 0) (dCons (dOp rSub (dVar 1) (dVar 2)) (dNil))))))
    (dSeq (dParN (dCons (dCB sem__law_draw (dCons (dVar 0) (dCons (dC (.int 10)) (dNil)))) (dCons (dCB sem__law_any (dCons (dVar 0) (dCons (dFz (dLst (dCons (dC (.int 0)) (dCons (dC (.int 1)) (dCons (dCB sem__law_draw (dCons (dVar 0) (dCons (dC (.int 12)) (dNil)))) (dCons (dCB sem__law_draw (dCons (dVar 0) (dCons (dC (.int 55)) (dNil)))) (dNil))))))) (dNil)))) (dNil))) (dgCons (dgName 4) (dgCons (dgName 5) (dgNil))))
    (dSeq (dSet 7 (dCB rToTup (dCons (dFz (dLc (dRange1 (dVar 1)) (dgName 6) (dYes) (dIf (dTest (dChain rLe rLe (dVar 2) (dVar 6) (dVar 3))) (dTup (dCons (dC (.int 0)) (dCons (dVar 4) (dNil)))) (dTup (dCons (dC (.int 0)) (dCons (dC (.int 0)) (dNil))))) [6])) dNil)))
    (dSeq (dSet 8 (dCB rToTup (dCons (dFz (dLc (dRange1 (dVar 1)) (dgName 6) (dYes) (dTup (dCons (dIf (dTest (dOp rGe (dVar 6) (dVar 3))) (dVar 5) (dC (.int 0))) (dCons (dVar 5) (dNil)))) [6])) dNil)))
    (dSeq (dSet 9 (dCB sem_run_thing (dCons (dVar 1) (dCons (dVar 2) (dCons (dVar 3) (dCons (dVar 5) (dCons (dVar 4) (dNil))))))))
    (dSeq (dIfS (dNot (dTest (dCB sem__law_is (dCons (dVar 9) (dCons (dTup (dCons (dVar 7) (dCons (dVar 8) (dNil)))) (dNil)))))) (dRet (dC (.bl false))) (dNext))
    (dSeq (dIfS (dTest (dOp rGt (dVar 1) (dC (.int 3)))) (dRet (dC (.bl true))) (dNext))
    (dSeq (dSet 10 (dLst (dNil)))
    (dSeq (dFor (dSeqI (dCB sem__law_rows (dCons (dC (.int 0)) (dCons (dVar 4) (dCons (dVar 1) (dNil)))))) (dgName 11) (dSeq (dSet 13 (dFz (dLc (dEnumI (dVar 11)) (dgTup 2 (dgCons (dgName 6) (dgCons (dgName 12) (dgNil)))) (dNot (dTest (dChain rLe rLe (dVar 2) (dVar 6) (dVar 3)))) (dVar 12) [6, 12])))
    (dExpr (dExtend (dVar 10) (dIf (dAnd (dTest (dOp rEq (dCB rSumD (dCons (dVar 13) dNil)) (dC (.int 0)))) (dTest (dOp rEq (dCB rSumD (dCons (dVar 11) dNil)) (dVar 5)))) (dFz (dLst (dCons (dVar 11) (dNil)))) (dFz (dLst (dNil))))))))
    (dRet (dOp rEq (dCB sem__law_plans (dCons (dVar 9) (dNil))) (dVar 10))))))))))))
def sem__law_run : DR := fun ds M P => match ds with
  | [x0, x1] => b__law_run { nx := fun _ M' => P .non (mcut M M'), rt := fun d M' => P d (mcut M M') } [some x0, some x1, none, none, none, none, none, none, none, none, none, none, none, none] M
  | _ => False
def b__law_plain : DS := dSeq (dSet 3 (dCB rToTup (dCons (dFz (dLc (dRange1 (dVar 1)) (dgName 2) (dYes) (dOp rSub (dCB sem__law_draw (dCons (dVar 0) (dCons (dC (.int 19)) (dNil)))) (dC (.int 9))) [2])) dNil)))
    (dSeq (dSet 4 (dFz (dLc (dRange1 (dVar 1)) (dgName 2) (dYes) (dCB rSumD (dCons (dFz (dSl (dVar 3) dNoPart (dPart (dOp rAdd (dVar 2) (dC (.int 1)))))) dNil)) [2])))
    (dSeq (dSet 6 (dTup (dCons (dCB rToTup (dCons (dFz (dLc (dSeqI (dVar 3)) (dgName 5) (dYes) (dTup (dCons (dVar 5) (dCons (dVar 5) (dNil)))) [5])) dNil)) (dCons (dCB rToTup (dCons (dFz (dLc (dSeqI (dVar 4)) (dgName 5) (dYes) (dTup (dCons (dVar 5) (dCons (dVar 5) (dNil)))) [5])) dNil)) (dNil)))))
    (dRet (dAndV (dCB sem__law_is (dCons (dCB sem_plain_thing (dCons (dVar 1) (dCons (dVar 3) (dNil)))) (dCons (dVar 6) (dNil)))) (dOp rEq (dCB sem__law_plans (dCons (dVar 6) (dNil))) (dFz (dLst (dCons (dVar 3) (dNil)))))))))
def sem__law_plain : DR := fun ds M P => match ds with
  | [x0, x1] => b__law_plain { nx := fun _ M' => P .non (mcut M M'), rt := fun d M' => P d (mcut M M') } [some x0, some x1, none, none, none, none, none] M
  | _ => False
def b_law : DS := dSeq (dSet 1 (dCB sem__law_hand (dCons (dVar 0) (dNil))))
    (dSeq (dIfS (dTest (dOp rNe (dCB sem_car_thing (dCons (dC (.int 2)) (dCons (dC (.int 0)) (dCons (dC (.int 2)) (dCons (dC (.int 3)) (dCons (dC (.int 3)) (dCons (dC (.int 3)) (dNil)))))))) (dTup (dCons (dTup (dCons (dTup (dCons (dC (.int 0)) (dCons (dC (.int 3)) (dNil)))) (dCons (dTup (dCons (dC (.int 0)) (dCons (dC (.int 3)) (dNil)))) (dNil)))) (dCons (dTup (dCons (dTup (dCons (dC (.int 0)) (dCons (dC (.int 3)) (dNil)))) (dCons (dTup (dCons (dC (.int 3)) (dCons (dC (.int 3)) (dNil)))) (dNil)))) (dNil)))))) (dRet (dC (.bl false))) (dNext))
    (dSeq (dIfS (dTest (dOp rNe (dCB sem_store_thing (dCons (dC (.int 1)) (dCons (dC (.int 2)) (dCons (dC (.int 5)) (dCons (dC (.int 4)) (dCons (dC (.int 1)) (dCons (dC (.int 3)) (dNil)))))))) (dTup (dCons (dTup (dCons (dTup (dCons (dNeg (dC (.int 1))) (dCons (dC (.int 4)) (dNil)))) (dNil))) (dCons (dTup (dCons (dTup (dCons (dC (.int 1)) (dCons (dC (.int 3)) (dNil)))) (dNil))) (dNil)))))) (dRet (dC (.bl false))) (dNext))
    (dSeq (dFor (dRange1 (dC (.int 3))) (dgName 2) (dSeq (dSet 3 (dCB sem__law_any (dCons (dVar 1) (dCons (dFz (dLst (dCons (dC (.int 1)) (dCons (dC (.int 2)) (dCons (dC (.int 3)) (dCons (dC (.int 3)) (dCons (dC (.int 4)) (dCons (dC (.int 6)) (dNil))))))))) (dNil)))))
    (dSeq (dIfS (dOr (dNot (dTest (dCB sem__law_car (dCons (dVar 1) (dCons (dVar 3) (dNil)))))) (dOr (dNot (dTest (dCB sem__law_boiler (dCons (dVar 1) (dCons (dVar 3) (dNil)))))) (dNot (dTest (dCB sem__law_store (dCons (dVar 1) (dCons (dVar 3) (dNil)))))))) (dRet (dC (.bl false))) (dNext))
    (dIfS (dOr (dNot (dTest (dCB sem__law_run (dCons (dVar 1) (dCons (dVar 3) (dNil)))))) (dNot (dTest (dCB sem__law_plain (dCons (dVar 1) (dCons (dVar 3) (dNil))))))) (dRet (dC (.bl false))) (dNext)))))
    (dRet (dC (.bl true))))))
def sem_law : DR := fun ds M P => match ds with
  | [x0] => b_law { nx := fun _ M' => P .non (mcut M M'), rt := fun d M' => P d (mcut M M') } [some x0, none, none, none] M
  | _ => False
structure Facts (K : PySem.W.Frag) (mg : Str → Option Value) : Prop where
  f_is_integer : ∃ f fd, Fun K "is_integer" "is_integer" s_is_integer f fd ∧ mg "is_integer" = some (.ref f)
  f_is_tuple : ∃ f fd, Fun K "is_tuple" "is_tuple" s_is_tuple f fd ∧ mg "is_tuple" = some (.ref f)
  f_rated_between : ∃ f fd, Fun K "rated_between" "rated_between" s_rated_between f fd ∧ mg "rated_between" = some (.ref f)
  f_summed_from : ∃ f fd, Fun K "summed_from" "summed_from" s_summed_from f fd ∧ mg "summed_from" = some (.ref f)
  f_plain_of : ∃ f fd, Fun K "plain_of" "plain_of" s_plain_of f fd ∧ mg "plain_of" = some (.ref f)
  f__law_hand : ∃ f fd, Fun K "_law_hand" "_law_hand" s__law_hand f fd ∧ mg "_law_hand" = some (.ref f)
  f__law_draw : ∃ f fd, Fun K "_law_draw" "_law_draw" s__law_draw f fd ∧ mg "_law_draw" = some (.ref f)
  f__law_is : ∃ f fd, Fun K "_law_is" "_law_is" s__law_is f fd ∧ mg "_law_is" = some (.ref f)
  f__law_plans : ∃ f fd, Fun K "_law_plans" "_law_plans" s__law_plans f fd ∧ mg "_law_plans" = some (.ref f)
  f__law_rows : ∃ f fd, Fun K "_law_rows" "_law_rows" s__law_rows f fd ∧ mg "_law_rows" = some (.ref f)
  f_is_within : ∃ f fd, Fun K "is_within" "is_within" s_is_within f fd ∧ mg "is_within" = some (.ref f)
  f__law_any : ∃ f fd, Fun K "_law_any" "_law_any" s__law_any f fd ∧ mg "_law_any" = some (.ref f)
  f_are_integers : ∃ f fd, Fun K "are_integers" "are_integers" s_are_integers f fd ∧ mg "are_integers" = some (.ref f)
  f_is_hours : ∃ f fd, Fun K "is_hours" "is_hours" s_is_hours f fd ∧ mg "is_hours" = some (.ref f)
  f_is_rate : ∃ f fd, Fun K "is_rate" "is_rate" s_is_rate f fd ∧ mg "is_rate" = some (.ref f)
  f_is_room : ∃ f fd, Fun K "is_room" "is_room" s_is_room f fd ∧ mg "is_room" = some (.ref f)
  f_check_hours : ∃ f fd, Fun K "check_hours" "check_hours" s_check_hours f fd ∧ mg "check_hours" = some (.ref f)
  f_are_draws : ∃ f fd, Fun K "are_draws" "are_draws" s_are_draws f fd ∧ mg "are_draws" = some (.ref f)
  f_car_thing : ∃ f fd, Fun K "car_thing" "car_thing" s_car_thing f fd ∧ mg "car_thing" = some (.ref f)
  f_boiler_thing : ∃ f fd, Fun K "boiler_thing" "boiler_thing" s_boiler_thing f fd ∧ mg "boiler_thing" = some (.ref f)
  f_store_thing : ∃ f fd, Fun K "store_thing" "store_thing" s_store_thing f fd ∧ mg "store_thing" = some (.ref f)
  f_run_thing : ∃ f fd, Fun K "run_thing" "run_thing" s_run_thing f fd ∧ mg "run_thing" = some (.ref f)
  f_plain_thing : ∃ f fd, Fun K "plain_thing" "plain_thing" s_plain_thing f fd ∧ mg "plain_thing" = some (.ref f)
  f__law_car : ∃ f fd, Fun K "_law_car" "_law_car" s__law_car f fd ∧ mg "_law_car" = some (.ref f)
  f__law_boiler : ∃ f fd, Fun K "_law_boiler" "_law_boiler" s__law_boiler f fd ∧ mg "_law_boiler" = some (.ref f)
  f__law_store : ∃ f fd, Fun K "_law_store" "_law_store" s__law_store f fd ∧ mg "_law_store" = some (.ref f)
  f__law_run : ∃ f fd, Fun K "_law_run" "_law_run" s__law_run f fd ∧ mg "_law_run" = some (.ref f)
  f__law_plain : ∃ f fd, Fun K "_law_plain" "_law_plain" s__law_plain f fd ∧ mg "_law_plain" = some (.ref f)
  f_law : ∃ f fd, Fun K "law" "law" s_law f fd ∧ mg "law" = some (.ref f)
  n_abs : mg "abs" = none
  n_all : mg "all" = none
  n_bool : mg "bool" = none
  n_enumerate : mg "enumerate" = none
  n_int : mg "int" = none
  n_isinstance : mg "isinstance" = none
  n_len : mg "len" = none
  n_min : mg "min" = none
  n_range : mg "range" = none
  n_repr : mg "repr" = none
  n_sum : mg "sum" = none
  n_tuple : mg "tuple" = none
  n_zip : mg "zip" = none
  c_MOST_AMOUNT : ∃ u, mg "MOST_AMOUNT" = some u ∧ L2.RelV (.int 54) u
  c_MOST_HOURS : ∃ u, mg "MOST_HOURS" = some u ∧ L2.RelV (.int 6) u
  c_MOST_RATE : ∃ u, mg "MOST_RATE" = some u ∧ L2.RelV (.int 9) u
  c_MOST_ROOM : ∃ u, mg "MOST_ROOM" = some u ∧ L2.RelV (.int 40) u
  c_MOST_SUM : ∃ u, mg "MOST_SUM" = some u ∧ L2.RelV (.int 99) u
theorem fn_is_integer {P : Program} {w : World} {K : PySem.W.Frag} {mg : Str → Option Value} {base : Heap} (E : Facts K mg) {f : Addr} {fd : FuncData} (F : Fun K "is_integer" "is_integer" s_is_integer f fd) : FnD P w K mg base 1 f fd ["thing"] sem_is_integer := by
  refine fn_body (body := b_is_integer) F sc_is_integer (fun ds M G h => ?_) (fun cdv A outer s H gd hr => ?_) (fun ds M G h => ?_)
  · unfold sem_is_integer at h
    split at h
    · rfl
    · exact h.elim
  · exact (ssx_one (sx_ret (ps_ret (ex_and (ex_isi1 (T := "int") (by rfl) E.n_isinstance (ex_var 0 (pv 0)) (pe_bltn (v := .ty "int") (by rfl) E.n_int (by decide +kernel) rfl)) (ex_one (ex_not (ex_isi1 (T := "bool") (by rfl) E.n_isinstance (ex_var 0 (pv 0)) (pe_bltn (v := .ty "bool") (by rfl) E.n_bool (by decide +kernel) rfl))))))))
  · unfold sem_is_integer at h
    split at h
    · exact ⟨_, h, fun _ _ q => .inr q, fun _ _ q => .inr q, fun _ _ q => q, fun _ _ q => q⟩
    · exact h.elim
theorem d_is_integer {P : Program} {w : World} {K : PySem.W.Frag} {mg : Str → Option Value} {base : Heap} (E : Facts K mg) : DefD P w K mg base 1 "is_integer" sem_is_integer := by
  obtain ⟨f, fd, F, hm⟩ := E.f_is_integer
  exact ⟨f, fd, ["thing"], fn_is_integer E F, hm, F.kp, F.binds fun _ _ _ _ _ _ us hl => match us, hl with | [_], _ => rfl⟩
theorem fn_is_tuple {P : Program} {w : World} {K : PySem.W.Frag} {mg : Str → Option Value} {base : Heap} (E : Facts K mg) {f : Addr} {fd : FuncData} (F : Fun K "is_tuple" "is_tuple" s_is_tuple f fd) : FnD P w K mg base 1 f fd ["thing", "low", "high"] sem_is_tuple := by
  refine fn_body (body := b_is_tuple) F sc_is_tuple (fun ds M G h => ?_) (fun cdv A outer s H gd hr => ?_) (fun ds M G h => ?_)
  · unfold sem_is_tuple at h
    split at h
    · rfl
    · exact h.elim
  · exact (ssx_one (sx_ret (ps_ret (ex_and (ex_isi1 (T := "tuple") (by rfl) E.n_isinstance (ex_var 0 (pv 0)) (pe_bltn (v := .ty "tuple") (by rfl) E.n_tuple (by decide +kernel) rfl)) (ex_one (ex_chain2 o_le o_le (ex_var 1 (pv 1)) (ex_b1 b_len (by rfl) E.n_len (by decide +kernel) (ex_var 0 (pv 0))) (ex_var 2 (pv 2))))))))
  · unfold sem_is_tuple at h
    split at h
    · exact ⟨_, h, fun _ _ q => .inr q, fun _ _ q => .inr q, fun _ _ q => q, fun _ _ q => q⟩
    · exact h.elim
theorem d_is_tuple {P : Program} {w : World} {K : PySem.W.Frag} {mg : Str → Option Value} {base : Heap} (E : Facts K mg) : DefD P w K mg base 1 "is_tuple" sem_is_tuple := by
  obtain ⟨f, fd, F, hm⟩ := E.f_is_tuple
  exact ⟨f, fd, ["thing", "low", "high"], fn_is_tuple E F, hm, F.kp, F.binds fun _ _ _ _ _ _ us hl => match us, hl with | [_, _, _], _ => rfl⟩
theorem fn_rated_between {P : Program} {w : World} {K : PySem.W.Frag} {mg : Str → Option Value} {base : Heap} (E : Facts K mg) {f : Addr} {fd : FuncData} (F : Fun K "rated_between" "rated_between" s_rated_between f fd) : FnD P w K mg base 1 f fd ["hours", "first", "last", "rate"] sem_rated_between := by
  refine fn_body (body := b_rated_between) F sc_rated_between (fun ds M G h => ?_) (fun cdv A outer s H gd hr => ?_) (fun ds M G h => ?_)
  · unfold sem_rated_between at h
    split at h
    · rfl
    · exact h.elim
  · exact (ssx_one (sx_ret (ps_ret (ex_t1 b_tuple (by rfl) E.n_tuple (by decide +kernel) (ex_fz (ex_lc (pe_lc (own := [("hour", 4)]) rfl sc_rated_between.nd (ix_range1 (by rfl) E.n_range (ex_var 0 (pv 0))) (blkOk_by (own := [("hour", 4)]) (N := n_rated_between) (sc := defScope s_rated_between) (by decide +kernel)) (fun _ _ _ _ _ => gx_name 4 (pg_name (i := 4) sc_rated_between.nd rfl (by first | exact .inl rfl | exact .inr rfl))) (fun _ _ _ _ _ => tsx_nil) (fun _ _ _ _ _ => ex_if (tx_chain o_le o_le (ex_var 1 (pv 1)) (ex_var 4 (pv 4)) (ex_var 2 (pv 2))) (ex_tup (ax_cons (ex_c pe_int) (ax_cons (ex_var 3 (pv 3)) (ax_nil)))) (ex_tup (ax_cons (ex_c pe_int) (ax_cons (ex_c pe_int) (ax_nil)))))) (by decide)))))))
  · unfold sem_rated_between at h
    split at h
    · exact ⟨_, h, fun _ _ q => .inr q, fun _ _ q => .inr q, fun _ _ q => q, fun _ _ q => q⟩
    · exact h.elim
theorem d_rated_between {P : Program} {w : World} {K : PySem.W.Frag} {mg : Str → Option Value} {base : Heap} (E : Facts K mg) : DefD P w K mg base 1 "rated_between" sem_rated_between := by
  obtain ⟨f, fd, F, hm⟩ := E.f_rated_between
  exact ⟨f, fd, ["hours", "first", "last", "rate"], fn_rated_between E F, hm, F.kp, F.binds fun _ _ _ _ _ _ us hl => match us, hl with | [_, _, _, _], _ => rfl⟩
theorem fn_summed_from {P : Program} {w : World} {K : PySem.W.Frag} {mg : Str → Option Value} {base : Heap} (E : Facts K mg) {f : Addr} {fd : FuncData} (F : Fun K "summed_from" "summed_from" s_summed_from f fd) : FnD P w K mg base 1 f fd ["hours", "last", "before", "behind"] sem_summed_from := by
  refine fn_body (body := b_summed_from) F sc_summed_from (fun ds M G h => ?_) (fun cdv A outer s H gd hr => ?_) (fun ds M G h => ?_)
  · unfold sem_summed_from at h
    split at h
    · rfl
    · exact h.elim
  · exact (ssx_one (sx_ret (ps_ret (ex_t1 b_tuple (by rfl) E.n_tuple (by decide +kernel) (ex_fz (ex_lc (pe_lc (own := [("hour", 4)]) rfl sc_summed_from.nd (ix_range1 (by rfl) E.n_range (ex_var 0 (pv 0))) (blkOk_by (own := [("hour", 4)]) (N := n_summed_from) (sc := defScope s_summed_from) (by decide +kernel)) (fun _ _ _ _ _ => gx_name 4 (pg_name (i := 4) sc_summed_from.nd rfl (by first | exact .inl rfl | exact .inr rfl))) (fun _ _ _ _ _ => tsx_nil) (fun _ _ _ _ _ => ex_if (tx_cmp o_ge (ex_var 4 (pv 4)) (ex_var 1 (pv 1)) (nomark _)) (ex_var 3 (pv 3)) (ex_var 2 (pv 2)))) (by decide)))))))
  · unfold sem_summed_from at h
    split at h
    · exact ⟨_, h, fun _ _ q => .inr q, fun _ _ q => .inr q, fun _ _ q => q, fun _ _ q => q⟩
    · exact h.elim
theorem d_summed_from {P : Program} {w : World} {K : PySem.W.Frag} {mg : Str → Option Value} {base : Heap} (E : Facts K mg) : DefD P w K mg base 1 "summed_from" sem_summed_from := by
  obtain ⟨f, fd, F, hm⟩ := E.f_summed_from
  exact ⟨f, fd, ["hours", "last", "before", "behind"], fn_summed_from E F, hm, F.kp, F.binds fun _ _ _ _ _ _ us hl => match us, hl with | [_, _, _, _], _ => rfl⟩
theorem fn_plain_of {P : Program} {w : World} {K : PySem.W.Frag} {mg : Str → Option Value} {base : Heap} (E : Facts K mg) {f : Addr} {fd : FuncData} (F : Fun K "plain_of" "plain_of" s_plain_of f fd) : FnD P w K mg base 1 f fd ["plan"] sem_plain_of := by
  refine fn_body (body := b_plain_of) F sc_plain_of (fun ds M G h => ?_) (fun cdv A outer s H gd hr => ?_) (fun ds M G h => ?_)
  · unfold sem_plain_of at h
    split at h
    · rfl
    · exact h.elim
  · exact (ssx_cons (sx_par2 1 2 (ps_par (i := 1) (j := 2) rfl sc_plain_of.nd rfl rfl (by decide) rfl rfl (ax_cons (ex_lst (ax_nil)) (ax_cons (ex_c pe_int) (ax_nil))) (by rfl)))
    (ssx_cons (sx_for (ps_for PassesOwn.never rfl (ix_seqI (ex_var 0 (pv 0))) (gx_name 3 (pg_name (i := 3) sc_plain_of.nd rfl (by first | exact .inl rfl | exact .inr rfl))) (ssx_cons (sx_set 2 (ps_set (i := 2) sc_plain_of.nd rfl (by first | exact .inl rfl | exact .inr rfl) (ex_op o_add (ex_var 2 (pv 2)) (ex_var 3 (pv 3)))))
    (ssx_one (sx_expr (ps_expr (ex_append (pe_bm PySem.F.plainAttrs_list PySem.F.slot_list_append PySem.F.type_list_append mt_append (ex_var 1 (pv 1)) (ax_cons (ex_tup (ax_cons (ex_var 2 (pv 2)) (ax_cons (ex_var 2 (pv 2)) (ax_nil)))) ax_nil)))))))))
    (ssx_one (sx_ret (ps_ret (ex_tup (ax_cons (ex_t1 b_tuple (by rfl) E.n_tuple (by decide +kernel) (ex_fz (ex_lc (pe_lc (own := [("amount", 3)]) rfl sc_plain_of.nd (ix_seqI (ex_var 0 (pv 0))) (blkOk_by (own := [("amount", 3)]) (N := n_plain_of) (sc := defScope s_plain_of) (by decide +kernel)) (fun _ _ _ _ _ => gx_name 3 (pg_name (i := 3) sc_plain_of.nd rfl (by first | exact .inl rfl | exact .inr rfl))) (fun _ _ _ _ _ => tsx_nil) (fun _ _ _ _ _ => ex_tup (ax_cons (ex_var 3 (pv 3)) (ax_cons (ex_var 3 (pv 3)) (ax_nil))))) (by decide)))) (ax_cons (ex_t1 b_tuple (by rfl) E.n_tuple (by decide +kernel) (ex_var 1 (pv 1))) (ax_nil)))))))))
  · unfold sem_plain_of at h
    split at h
    · exact ⟨_, h, fun _ _ q => .inr q, fun _ _ q => .inr q, fun _ _ q => q, fun _ _ q => q⟩
    · exact h.elim
theorem d_plain_of {P : Program} {w : World} {K : PySem.W.Frag} {mg : Str → Option Value} {base : Heap} (E : Facts K mg) : DefD P w K mg base 1 "plain_of" sem_plain_of := by
  obtain ⟨f, fd, F, hm⟩ := E.f_plain_of
  exact ⟨f, fd, ["plan"], fn_plain_of E F, hm, F.kp, F.binds fun _ _ _ _ _ _ us hl => match us, hl with | [_], _ => rfl⟩
theorem fn__law_hand {P : Program} {w : World} {K : PySem.W.Frag} {mg : Str → Option Value} {base : Heap} (E : Facts K mg) {f : Addr} {fd : FuncData} (F : Fun K "_law_hand" "_law_hand" s__law_hand f fd) : FnD P w K mg base 1 f fd ["script"] sem__law_hand := by
  refine fn_body (body := b__law_hand) F sc__law_hand (fun ds M G h => ?_) (fun cdv A outer s H gd hr => ?_) (fun ds M G h => ?_)
  · unfold sem__law_hand at h
    split at h
    · rfl
    · exact h.elim
  · exact (ssx_cons (sx_lcFz (ps_setLc (i := 2) (own := [("cell", 1)]) rfl sc__law_hand.nd rfl rfl (sw_true rfl rfl rfl (by decide +kernel)) (ix_seqI (ex_fz (ex_slice (ex_var 0 (pv 0)) px_none (px_some (ex_c pe_int))))) (blkOk_by (own := [("cell", 1)]) (N := n__law_hand) (sc := defScope s__law_hand) (by decide +kernel)) (fun _ _ _ _ _ => gx_name 1 (pg_name (i := 1) sc__law_hand.nd rfl (by first | exact .inl rfl | exact .inr rfl))) (fun _ _ _ _ _ => tsx_nil) (fun _ _ _ _ _ => ex_op o_mod (ex_t1 b_int (by rfl) E.n_int (by decide +kernel) (ex_b1 b_abs (by rfl) E.n_abs (by decide +kernel) (ex_t1 b_int (by rfl) E.n_int (by decide +kernel) (ex_var 1 (pv 1))))) (ex_op o_pow (ex_c pe_int) (ex_c pe_int)))) (by decide))
    (ssx_one (sx_ret (ps_ret (ex_lst (ax_cons (ex_var 2 (pv 2)) (ax_cons (ex_c pe_int) (ax_cons (ex_c pe_int) (ax_cons (ex_op o_add (ex_c pe_int) (ex_op o_mul (ex_c pe_int) (ex_b1 b_len (by rfl) E.n_len (by decide +kernel) (ex_var 2 (pv 2))))) (ax_cons (ex_c pe_int) (ax_nil)))))))))))
  · unfold sem__law_hand at h
    split at h
    · exact ⟨_, h, fun _ _ q => .inl q, fun _ _ q => .inl q, fun _ _ q => q, fun _ _ q => q⟩
    · exact h.elim
theorem d__law_hand {P : Program} {w : World} {K : PySem.W.Frag} {mg : Str → Option Value} {base : Heap} (E : Facts K mg) : DefD P w K mg base 1 "_law_hand" sem__law_hand := by
  obtain ⟨f, fd, F, hm⟩ := E.f__law_hand
  exact ⟨f, fd, ["script"], fn__law_hand E F, hm, F.kp, F.binds fun _ _ _ _ _ _ us hl => match us, hl with | [_], _ => rfl⟩
theorem fn__law_draw {P : Program} {w : World} {K : PySem.W.Frag} {mg : Str → Option Value} {base : Heap} (E : Facts K mg) {f : Addr} {fd : FuncData} (F : Fun K "_law_draw" "_law_draw" s__law_draw f fd) : FnD P w K mg base 1 f fd ["hand", "many"] sem__law_draw := by
  refine fn_body (body := b__law_draw) F sc__law_draw (fun ds M G h => ?_) (fun cdv A outer s H gd hr => ?_) (fun ds M G h => ?_)
  · unfold sem__law_draw at h
    split at h
    · rfl
    · exact h.elim
  · exact (ssx_cons (sx_if (PW.pt (wx_and (tx_cmp (o_eq hr.units) (ex_ix i_at (ex_var 0 (pv 0)) (ex_c pe_int) (fun _ _ => rfl)) (ex_c pe_int) (nomark _)) (wx_and1 (tx_cmp o_lt (ex_ix i_at (ex_var 0 (pv 0)) (ex_c pe_int) (fun _ _ => rfl)) (ex_b1 b_len (by rfl) E.n_len (by decide +kernel) (ex_ix i_at (ex_var 0 (pv 0)) (ex_c pe_int) (fun _ _ => rfl))) (nomark _))))) (ssx_cons (sx_set 2 (ps_set (i := 2) sc__law_draw.nd rfl (by first | exact .inl rfl | exact .inr rfl) (ex_ix i_at (ex_ix i_at (ex_var 0 (pv 0)) (ex_c pe_int) (fun _ _ => rfl)) (ex_ix i_at (ex_var 0 (pv 0)) (ex_c pe_int) (fun _ _ => rfl)) (fun _ _ => rfl))))
    (ssx_cons (sx_store (ps_asg (ex_op o_add (ex_ix i_at (ex_var 0 (pv 0)) (ex_c pe_int) (fun _ _ => rfl)) (ex_c pe_int)) (pg_sub (ex_var 0 (pv 0)) (ex_c pe_int) set_list)))
    (ssx_cons (sx_store (ps_asg (ex_op o_mod (ex_t1 b_int (by rfl) E.n_int (by decide +kernel) (ex_op o_add (ex_op o_add (ex_op o_mul (ex_ix i_at (ex_var 0 (pv 0)) (ex_c pe_int) (fun _ _ => rfl)) (ex_c pe_int)) (ex_var 2 (pv 2))) (ex_c pe_int))) (ex_c pe_int)) (pg_sub (ex_var 0 (pv 0)) (ex_c pe_int) set_list)))
    (ssx_one (sx_if (tx_cmp o_ge (ex_var 2 (pv 2)) (ex_op o_pow (ex_c pe_int) (ex_c pe_int)) (nomark _)) (ssx_one (sx_store (ps_asg (ex_var 2 (pv 2)) (pg_sub (ex_var 0 (pv 0)) (ex_c pe_int) set_list)))) (ssx_nil)))))) (ssx_nil))
    (ssx_cons (sx_if (tx_cmp o_gt (ex_ix i_at (ex_var 0 (pv 0)) (ex_c pe_int) (fun _ _ => rfl)) (ex_c pe_int) (nomark _)) (ssx_cons (sx_set 3 (ps_set (i := 3) sc__law_draw.nd rfl (by first | exact .inl rfl | exact .inr rfl) (ex_op o_mod (ex_t1 b_int (by rfl) E.n_int (by decide +kernel) (ex_ix i_at (ex_var 0 (pv 0)) (ex_c pe_int) (fun _ _ => rfl))) (ex_var 1 (pv 1)))))
    (ssx_cons (sx_store (ps_asg (ex_op o_div (ex_ix i_at (ex_var 0 (pv 0)) (ex_c pe_int) (fun _ _ => rfl)) (ex_var 1 (pv 1))) (pg_sub (ex_var 0 (pv 0)) (ex_c pe_int) set_list)))
    (ssx_one (sx_ret (ps_ret (ex_var 3 (pv 3))))))) (ssx_nil))
    (ssx_cons (sx_store (ps_asg (ex_op o_add (ex_ix i_at (ex_var 0 (pv 0)) (ex_c pe_int) (fun _ _ => rfl)) (ex_c pe_int)) (pg_sub (ex_var 0 (pv 0)) (ex_c pe_int) set_list)))
    (ssx_cons (sx_set 4 (ps_set (i := 4) sc__law_draw.nd rfl (by first | exact .inl rfl | exact .inr rfl) (ex_op o_mod (ex_t1 b_int (by rfl) E.n_int (by decide +kernel) (ex_op o_mul (ex_t1 b_int (by rfl) E.n_int (by decide +kernel) (ex_op o_add (ex_ix i_at (ex_var 0 (pv 0)) (ex_c pe_int) (fun _ _ => rfl)) (ex_op o_mul (ex_c pe_int) (ex_ix i_at (ex_var 0 (pv 0)) (ex_c pe_int) (fun _ _ => rfl))))) (ex_c pe_int))) (ex_c pe_int))))
    (ssx_cons (sx_set 4 (ps_set (i := 4) sc__law_draw.nd rfl (by first | exact .inl rfl | exact .inr rfl) (ex_op o_mod (ex_t1 b_int (by rfl) E.n_int (by decide +kernel) (ex_op o_mul (ex_var 4 (pv 4)) (ex_op o_add (ex_op o_div (ex_var 4 (pv 4)) (ex_c pe_int)) (ex_c pe_int)))) (ex_c pe_int))))
    (ssx_cons (sx_set 4 (ps_set (i := 4) sc__law_draw.nd rfl (by first | exact .inl rfl | exact .inr rfl) (ex_op o_mod (ex_t1 b_int (by rfl) E.n_int (by decide +kernel) (ex_op o_mul (ex_var 4 (pv 4)) (ex_op o_add (ex_op o_div (ex_var 4 (pv 4)) (ex_c pe_int)) (ex_c pe_int)))) (ex_c pe_int))))
    (ssx_one (sx_ret (ps_ret (ex_op o_mod (ex_t1 b_int (by rfl) E.n_int (by decide +kernel) (ex_op o_div (ex_var 4 (pv 4)) (ex_c pe_int))) (ex_var 1 (pv 1))))))))))))
  · unfold sem__law_draw at h
    split at h
    · exact ⟨_, h, fun _ _ q => .inr q, fun _ _ q => .inr q, fun _ _ q => q, fun _ _ q => q⟩
    · exact h.elim
theorem d__law_draw {P : Program} {w : World} {K : PySem.W.Frag} {mg : Str → Option Value} {base : Heap} (E : Facts K mg) : DefD P w K mg base 1 "_law_draw" sem__law_draw := by
  obtain ⟨f, fd, F, hm⟩ := E.f__law_draw
  exact ⟨f, fd, ["hand", "many"], fn__law_draw E F, hm, F.kp, F.binds fun _ _ _ _ _ _ us hl => match us, hl with | [_, _], _ => rfl⟩
theorem fn__law_is {P : Program} {w : World} {K : PySem.W.Frag} {mg : Str → Option Value} {base : Heap} (E : Facts K mg) {f : Addr} {fd : FuncData} (F : Fun K "_law_is" "_law_is" s__law_is f fd) : FnD P w K mg base 1 f fd ["told", "due"] sem__law_is := by
  refine fn_body (body := b__law_is) F sc__law_is (fun ds M G h => ?_) (fun cdv A outer s H gd hr => ?_) (fun ds M G h => ?_)
  · unfold sem__law_is at h
    split at h
    · rfl
    · exact h.elim
  · exact (ssx_one (sx_ret (ps_ret (ex_cmp (o_eq hr.units) (ex_b1 (b_repr gd hr.units) (by rfl) E.n_repr (by decide +kernel) (ex_var 0 (pv 0))) (ex_b1 (b_repr gd hr.units) (by rfl) E.n_repr (by decide +kernel) (ex_var 1 (pv 1))) (nomark _)))))
  · unfold sem__law_is at h
    split at h
    · exact ⟨_, h, fun _ _ q => .inr q, fun _ _ q => .inr q, fun _ _ q => q, fun _ _ q => q⟩
    · exact h.elim
theorem d__law_is {P : Program} {w : World} {K : PySem.W.Frag} {mg : Str → Option Value} {base : Heap} (E : Facts K mg) : DefD P w K mg base 1 "_law_is" sem__law_is := by
  obtain ⟨f, fd, F, hm⟩ := E.f__law_is
  exact ⟨f, fd, ["told", "due"], fn__law_is E F, hm, F.kp, F.binds fun _ _ _ _ _ _ us hl => match us, hl with | [_, _], _ => rfl⟩
theorem fn__law_plans {P : Program} {w : World} {K : PySem.W.Frag} {mg : Str → Option Value} {base : Heap} (E : Facts K mg) {f : Addr} {fd : FuncData} (F : Fun K "_law_plans" "_law_plans" s__law_plans f fd) : FnD P w K mg base 1 f fd ["thing"] sem__law_plans := by
  refine fn_body (body := b__law_plans) F sc__law_plans (fun ds M G h => ?_) (fun cdv A outer s H gd hr => ?_) (fun ds M G h => ?_)
  · unfold sem__law_plans at h
    split at h
    · rfl
    · exact h.elim
  · exact (ssx_cons (sx_asg (ps_asg (ex_var 0 (pv 0)) (gx_tup rfl (gsx_cons (gx_name 1 (pg_name (i := 1) sc__law_plans.nd rfl (by first | exact .inl rfl | exact .inr rfl))) (gsx_cons (gx_name 2 (pg_name (i := 2) sc__law_plans.nd rfl (by first | exact .inl rfl | exact .inr rfl))) (gsx_nil))))))
    (ssx_cons (sx_set 3 (ps_set (i := 3) sc__law_plans.nd rfl (by first | exact .inl rfl | exact .inr rfl) (ex_fz (ex_lst (ax_cons (ex_tup (ax_cons (ex_tup (ax_nil)) (ax_cons (ex_c pe_int) (ax_nil)))) (ax_nil))))))
    (ssx_cons (sx_for (ps_for PassesOwn.never rfl (ix_enum (by rfl) E.n_enumerate (ex_var 1 (pv 1))) (gx_tup rfl (gsx_cons (gx_name 4 (pg_name (i := 4) sc__law_plans.nd rfl (by first | exact .inl rfl | exact .inr rfl))) (gsx_cons (gx_tup rfl (gsx_cons (gx_name 5 (pg_name (i := 5) sc__law_plans.nd rfl (by first | exact .inl rfl | exact .inr rfl))) (gsx_cons (gx_name 6 (pg_name (i := 6) sc__law_plans.nd rfl (by first | exact .inl rfl | exact .inr rfl))) (gsx_nil)))) (gsx_nil)))) (ssx_cons (sx_set 7 (ps_set (i := 7) sc__law_plans.nd rfl (by first | exact .inl rfl | exact .inr rfl) (ex_lst (ax_nil))))
    (ssx_cons (sx_for (ps_for PassesOwn.never rfl (ix_seqI (ex_var 3 (pv 3))) (gx_tup rfl (gsx_cons (gx_name 8 (pg_name (i := 8) sc__law_plans.nd rfl (by first | exact .inl rfl | exact .inr rfl))) (gsx_cons (gx_name 9 (pg_name (i := 9) sc__law_plans.nd rfl (by first | exact .inl rfl | exact .inr rfl))) (gsx_nil)))) (ssx_one (sx_for (ps_for PassesOwn.never rfl (ix_range2 (by rfl) E.n_range (ex_var 5 (pv 5)) (ex_op o_add (ex_var 6 (pv 6)) (ex_c pe_int))) (gx_name 10 (pg_name (i := 10) sc__law_plans.nd rfl (by first | exact .inl rfl | exact .inr rfl))) (ssx_one (sx_if (tx_chain o_le o_le (ex_ix i_at (ex_ix i_at (ex_var 2 (pv 2)) (ex_var 4 (pv 4)) (fun _ _ => rfl)) (ex_c pe_int) (fun _ _ => rfl)) (ex_op o_add (ex_var 9 (pv 9)) (ex_var 10 (pv 10))) (ex_ix i_at (ex_ix i_at (ex_var 2 (pv 2)) (ex_var 4 (pv 4)) (fun _ _ => rfl)) (ex_c pe_int) (fun _ _ => rfl))) (ssx_one (sx_expr (ps_expr (ex_append (pe_bm PySem.F.plainAttrs_list PySem.F.slot_list_append PySem.F.type_list_append mt_append (ex_var 7 (pv 7)) (ax_cons (ex_tup (ax_cons (ex_op o_add (ex_var 8 (pv 8)) (ex_tup (ax_cons (ex_var 10 (pv 10)) (ax_nil)))) (ax_cons (ex_op o_add (ex_var 9 (pv 9)) (ex_var 10 (pv 10))) (ax_nil)))) ax_nil)))))) (ssx_nil))))))))
    (ssx_one (sx_set 3 (ps_set (i := 3) sc__law_plans.nd rfl (by first | exact .inl rfl | exact .inr rfl) (ex_fz (ex_var 7 (pv 7))))))))))
    (ssx_one (sx_ret (ps_ret (ex_fz (ex_lc (pe_lc (own := [("plan", 8), ("level", 9)]) rfl sc__law_plans.nd (ix_seqI (ex_var 3 (pv 3))) (blkOk_by (own := [("plan", 8), ("level", 9)]) (N := n__law_plans) (sc := defScope s__law_plans) (by decide +kernel)) (fun _ _ _ _ _ => gx_tup rfl (gsx_cons (gx_name 8 (pg_name (i := 8) sc__law_plans.nd rfl (by first | exact .inl rfl | exact .inr rfl))) (gsx_cons (gx_name 9 (pg_name (i := 9) sc__law_plans.nd rfl (by first | exact .inl rfl | exact .inr rfl))) (gsx_nil)))) (fun _ _ _ _ _ => tsx_nil) (fun _ _ _ _ _ => ex_var 8 (pv 8))) (by decide)))))))))
  · unfold sem__law_plans at h
    split at h
    · exact ⟨_, h, fun _ _ q => .inr q, fun _ _ q => .inr q, fun _ _ q => q, fun _ _ q => q⟩
    · exact h.elim
theorem d__law_plans {P : Program} {w : World} {K : PySem.W.Frag} {mg : Str → Option Value} {base : Heap} (E : Facts K mg) : DefD P w K mg base 1 "_law_plans" sem__law_plans := by
  obtain ⟨f, fd, F, hm⟩ := E.f__law_plans
  exact ⟨f, fd, ["thing"], fn__law_plans E F, hm, F.kp, F.binds fun _ _ _ _ _ _ us hl => match us, hl with | [_], _ => rfl⟩
theorem fn__law_rows {P : Program} {w : World} {K : PySem.W.Frag} {mg : Str → Option Value} {base : Heap} (E : Facts K mg) {f : Addr} {fd : FuncData} (F : Fun K "_law_rows" "_law_rows" s__law_rows f fd) : FnD P w K mg base 1 f fd ["low", "high", "hours"] sem__law_rows := by
  refine fn_body (body := b__law_rows) F sc__law_rows (fun ds M G h => ?_) (fun cdv A outer s H gd hr => ?_) (fun ds M G h => ?_)
  · unfold sem__law_rows at h
    split at h
    · rfl
    · exact h.elim
  · exact (ssx_cons (sx_set 3 (ps_set (i := 3) sc__law_rows.nd rfl (by first | exact .inl rfl | exact .inr rfl) (ex_fz (ex_lst (ax_cons (ex_tup (ax_nil)) (ax_nil))))))
    (ssx_cons (sx_for (ps_for PassesOwn.never rfl (ix_range1 (by rfl) E.n_range (ex_var 2 (pv 2))) (gx_name 4 (pg_name (i := 4) sc__law_rows.nd rfl (by first | exact .inl rfl | exact .inr rfl))) (ssx_cons (sx_set 5 (ps_set (i := 5) sc__law_rows.nd rfl (by first | exact .inl rfl | exact .inr rfl) (ex_lst (ax_nil))))
    (ssx_cons (sx_for (ps_for PassesOwn.never rfl (ix_seqI (ex_var 3 (pv 3))) (gx_name 6 (pg_name (i := 6) sc__law_rows.nd rfl (by first | exact .inl rfl | exact .inr rfl))) (ssx_one (sx_expr (ps_expr (ex_extend (pe_bm PySem.F.plainAttrs_list PySem.F.slot_list_extend PySem.F.type_list_extend mt_extendR (ex_var 5 (pv 5)) (ax_cons (ex_fz (ex_lc (pe_lc (own := [("amount", 7)]) rfl sc__law_rows.nd (ix_range2 (by rfl) E.n_range (ex_var 0 (pv 0)) (ex_op o_add (ex_var 1 (pv 1)) (ex_c pe_int))) (blkOk_by (own := [("amount", 7)]) (N := n__law_rows) (sc := defScope s__law_rows) (by decide +kernel)) (fun _ _ _ _ _ => gx_name 7 (pg_name (i := 7) sc__law_rows.nd rfl (by first | exact .inl rfl | exact .inr rfl))) (fun _ _ _ _ _ => tsx_nil) (fun _ _ _ _ _ => ex_op o_add (ex_var 6 (pv 6)) (ex_tup (ax_cons (ex_var 7 (pv 7)) (ax_nil))))) (by decide))) ax_nil))))))))
    (ssx_one (sx_set 3 (ps_set (i := 3) sc__law_rows.nd rfl (by first | exact .inl rfl | exact .inr rfl) (ex_fz (ex_var 5 (pv 5))))))))))
    (ssx_one (sx_ret (ps_ret (ex_var 3 (pv 3)))))))
  · unfold sem__law_rows at h
    split at h
    · exact ⟨_, h, fun _ _ q => .inr q, fun _ _ q => .inr q, fun _ _ q => q, fun _ _ q => q⟩
    · exact h.elim
theorem d__law_rows {P : Program} {w : World} {K : PySem.W.Frag} {mg : Str → Option Value} {base : Heap} (E : Facts K mg) : DefD P w K mg base 1 "_law_rows" sem__law_rows := by
  obtain ⟨f, fd, F, hm⟩ := E.f__law_rows
  exact ⟨f, fd, ["low", "high", "hours"], fn__law_rows E F, hm, F.kp, F.binds fun _ _ _ _ _ _ us hl => match us, hl with | [_, _, _], _ => rfl⟩
theorem fn_is_within {P : Program} {w : World} {K : PySem.W.Frag} {mg : Str → Option Value} {base : Heap} (E : Facts K mg) {f : Addr} {fd : FuncData} (F : Fun K "is_within" "is_within" s_is_within f fd) : FnD P w K mg base 2 f fd ["thing", "low", "high"] sem_is_within := by
  refine fn_body (body := b_is_within) F sc_is_within (fun ds M G h => ?_) (fun cdv A outer s H gd hr => ?_) (fun ds M G h => ?_)
  · unfold sem_is_within at h
    split at h
    · rfl
    · exact h.elim
  · exact (ssx_one (sx_ret (ps_ret (ex_and (ex_def (d_is_integer E) gd hr (by decide) (by rfl) (ax_cons (ex_var 0 (pv 0)) (ax_nil))) (ex_one (ex_chain2 o_le o_le (ex_var 1 (pv 1)) (ex_var 0 (pv 0)) (ex_var 2 (pv 2))))))))
  · unfold sem_is_within at h
    split at h
    · exact ⟨_, h, fun _ _ q => .inr q, fun _ _ q => .inr q, fun _ _ q => q, fun _ _ q => q⟩
    · exact h.elim
theorem d_is_within {P : Program} {w : World} {K : PySem.W.Frag} {mg : Str → Option Value} {base : Heap} (E : Facts K mg) : DefD P w K mg base 2 "is_within" sem_is_within := by
  obtain ⟨f, fd, F, hm⟩ := E.f_is_within
  exact ⟨f, fd, ["thing", "low", "high"], fn_is_within E F, hm, F.kp, F.binds fun _ _ _ _ _ _ us hl => match us, hl with | [_, _, _], _ => rfl⟩
theorem fn__law_any {P : Program} {w : World} {K : PySem.W.Frag} {mg : Str → Option Value} {base : Heap} (E : Facts K mg) {f : Addr} {fd : FuncData} (F : Fun K "_law_any" "_law_any" s__law_any f fd) : FnD P w K mg base 2 f fd ["hand", "some"] sem__law_any := by
  refine fn_body (body := b__law_any) F sc__law_any (fun ds M G h => ?_) (fun cdv A outer s H gd hr => ?_) (fun ds M G h => ?_)
  · unfold sem__law_any at h
    split at h
    · rfl
    · exact h.elim
  · exact (ssx_one (sx_ret (ps_ret (ex_ix i_at (ex_var 1 (pv 1)) (ex_def (d__law_draw E) gd hr (by decide) (by rfl) (ax_cons (ex_var 0 (pv 0)) (ax_cons (ex_b1 b_len (by rfl) E.n_len (by decide +kernel) (ex_var 1 (pv 1))) (ax_nil)))) (fun _ _ => rfl)))))
  · unfold sem__law_any at h
    split at h
    · exact ⟨_, h, fun _ _ q => .inr q, fun _ _ q => .inr q, fun _ _ q => q, fun _ _ q => q⟩
    · exact h.elim
theorem d__law_any {P : Program} {w : World} {K : PySem.W.Frag} {mg : Str → Option Value} {base : Heap} (E : Facts K mg) : DefD P w K mg base 2 "_law_any" sem__law_any := by
  obtain ⟨f, fd, F, hm⟩ := E.f__law_any
  exact ⟨f, fd, ["hand", "some"], fn__law_any E F, hm, F.kp, F.binds fun _ _ _ _ _ _ us hl => match us, hl with | [_, _], _ => rfl⟩
theorem fn_are_integers {P : Program} {w : World} {K : PySem.W.Frag} {mg : Str → Option Value} {base : Heap} (E : Facts K mg) {f : Addr} {fd : FuncData} (F : Fun K "are_integers" "are_integers" s_are_integers f fd) : FnD P w K mg base 3 f fd ["thing", "many", "low", "high"] sem_are_integers := by
  refine fn_body (body := b_are_integers) F sc_are_integers (fun ds M G h => ?_) (fun cdv A outer s H gd hr => ?_) (fun ds M G h => ?_)
  · unfold sem_are_integers at h
    split at h
    · rfl
    · exact h.elim
  · exact (ssx_one (sx_ret (ps_ret (ex_and (ex_def (d_is_tuple E) gd hr (by decide) (by rfl) (ax_cons (ex_var 0 (pv 0)) (ax_cons (ex_var 1 (pv 1)) (ax_cons (ex_var 1 (pv 1)) (ax_nil))))) (ex_one (ex_b1 (b_all rfl) (by rfl) E.n_all (by decide +kernel) (ex_fz (ex_lc (pe_lc (own := [("one", 4)]) rfl sc_are_integers.nd (ix_seqI (ex_var 0 (pv 0))) (blkOk_by (own := [("one", 4)]) (N := n_are_integers) (sc := defScope s_are_integers) (by decide +kernel)) (fun _ _ _ _ _ => gx_name 4 (pg_name (i := 4) sc_are_integers.nd rfl (by first | exact .inl rfl | exact .inr rfl))) (fun _ _ _ _ _ => tsx_nil) (fun _ _ _ _ _ => ex_def (d_is_within E) gd hr (by decide) (by rfl) (ax_cons (ex_var 4 (pv 4)) (ax_cons (ex_var 2 (pv 2)) (ax_cons (ex_var 3 (pv 3)) (ax_nil)))))) (by decide)))))))))
  · unfold sem_are_integers at h
    split at h
    · exact ⟨_, h, fun _ _ q => .inr q, fun _ _ q => .inr q, fun _ _ q => q, fun _ _ q => q⟩
    · exact h.elim
theorem d_are_integers {P : Program} {w : World} {K : PySem.W.Frag} {mg : Str → Option Value} {base : Heap} (E : Facts K mg) : DefD P w K mg base 3 "are_integers" sem_are_integers := by
  obtain ⟨f, fd, F, hm⟩ := E.f_are_integers
  exact ⟨f, fd, ["thing", "many", "low", "high"], fn_are_integers E F, hm, F.kp, F.binds fun _ _ _ _ _ _ us hl => match us, hl with | [_, _, _, _], _ => rfl⟩
theorem fn_is_hours {P : Program} {w : World} {K : PySem.W.Frag} {mg : Str → Option Value} {base : Heap} (E : Facts K mg) {f : Addr} {fd : FuncData} (F : Fun K "is_hours" "is_hours" s_is_hours f fd) : FnD P w K mg base 3 f fd ["thing"] sem_is_hours := by
  refine fn_body (body := b_is_hours) F sc_is_hours (fun ds M G h => ?_) (fun cdv A outer s H gd hr => ?_) (fun ds M G h => ?_)
  · unfold sem_is_hours at h
    split at h
    · rfl
    · exact h.elim
  · exact (ssx_one (sx_ret (ps_ret (ex_def (d_is_within E) gd hr (by decide) (by rfl) (ax_cons (ex_var 0 (pv 0)) (ax_cons (ex_c pe_int) (ax_cons (ex_c (pe_gk (by rfl) E.c_MOST_HOURS)) (ax_nil))))))))
  · unfold sem_is_hours at h
    split at h
    · exact ⟨_, h, fun _ _ q => .inr q, fun _ _ q => .inr q, fun _ _ q => q, fun _ _ q => q⟩
    · exact h.elim
theorem d_is_hours {P : Program} {w : World} {K : PySem.W.Frag} {mg : Str → Option Value} {base : Heap} (E : Facts K mg) : DefD P w K mg base 3 "is_hours" sem_is_hours := by
  obtain ⟨f, fd, F, hm⟩ := E.f_is_hours
  exact ⟨f, fd, ["thing"], fn_is_hours E F, hm, F.kp, F.binds fun _ _ _ _ _ _ us hl => match us, hl with | [_], _ => rfl⟩
theorem fn_is_rate {P : Program} {w : World} {K : PySem.W.Frag} {mg : Str → Option Value} {base : Heap} (E : Facts K mg) {f : Addr} {fd : FuncData} (F : Fun K "is_rate" "is_rate" s_is_rate f fd) : FnD P w K mg base 3 f fd ["thing"] sem_is_rate := by
  refine fn_body (body := b_is_rate) F sc_is_rate (fun ds M G h => ?_) (fun cdv A outer s H gd hr => ?_) (fun ds M G h => ?_)
  · unfold sem_is_rate at h
    split at h
    · rfl
    · exact h.elim
  · exact (ssx_one (sx_ret (ps_ret (ex_def (d_is_within E) gd hr (by decide) (by rfl) (ax_cons (ex_var 0 (pv 0)) (ax_cons (ex_c pe_int) (ax_cons (ex_c (pe_gk (by rfl) E.c_MOST_RATE)) (ax_nil))))))))
  · unfold sem_is_rate at h
    split at h
    · exact ⟨_, h, fun _ _ q => .inr q, fun _ _ q => .inr q, fun _ _ q => q, fun _ _ q => q⟩
    · exact h.elim
theorem d_is_rate {P : Program} {w : World} {K : PySem.W.Frag} {mg : Str → Option Value} {base : Heap} (E : Facts K mg) : DefD P w K mg base 3 "is_rate" sem_is_rate := by
  obtain ⟨f, fd, F, hm⟩ := E.f_is_rate
  exact ⟨f, fd, ["thing"], fn_is_rate E F, hm, F.kp, F.binds fun _ _ _ _ _ _ us hl => match us, hl with | [_], _ => rfl⟩
theorem fn_is_room {P : Program} {w : World} {K : PySem.W.Frag} {mg : Str → Option Value} {base : Heap} (E : Facts K mg) {f : Addr} {fd : FuncData} (F : Fun K "is_room" "is_room" s_is_room f fd) : FnD P w K mg base 3 f fd ["thing"] sem_is_room := by
  refine fn_body (body := b_is_room) F sc_is_room (fun ds M G h => ?_) (fun cdv A outer s H gd hr => ?_) (fun ds M G h => ?_)
  · unfold sem_is_room at h
    split at h
    · rfl
    · exact h.elim
  · exact (ssx_one (sx_ret (ps_ret (ex_def (d_is_within E) gd hr (by decide) (by rfl) (ax_cons (ex_var 0 (pv 0)) (ax_cons (ex_c pe_int) (ax_cons (ex_c (pe_gk (by rfl) E.c_MOST_ROOM)) (ax_nil))))))))
  · unfold sem_is_room at h
    split at h
    · exact ⟨_, h, fun _ _ q => .inr q, fun _ _ q => .inr q, fun _ _ q => q, fun _ _ q => q⟩
    · exact h.elim
theorem d_is_room {P : Program} {w : World} {K : PySem.W.Frag} {mg : Str → Option Value} {base : Heap} (E : Facts K mg) : DefD P w K mg base 3 "is_room" sem_is_room := by
  obtain ⟨f, fd, F, hm⟩ := E.f_is_room
  exact ⟨f, fd, ["thing"], fn_is_room E F, hm, F.kp, F.binds fun _ _ _ _ _ _ us hl => match us, hl with | [_], _ => rfl⟩
theorem fn_check_hours {P : Program} {w : World} {K : PySem.W.Frag} {mg : Str → Option Value} {base : Heap} (E : Facts K mg) {f : Addr} {fd : FuncData} (F : Fun K "check_hours" "check_hours" s_check_hours f fd) : FnD P w K mg base 4 f fd ["hours"] sem_check_hours := by
  refine fn_body (body := b_check_hours) F sc_check_hours (fun ds M G h => ?_) (fun cdv A outer s H gd hr => ?_) (fun ds M G h => ?_)
  · unfold sem_check_hours at h
    split at h
    · rfl
    · exact h.elim
  · exact (ssx_one (sx_if (tx_not (tx_val (ex_def (d_is_hours E) gd hr (by decide) (by rfl) (ax_cons (ex_var 0 (pv 0)) (ax_nil))))) (ssx_one (sx_never)) (ssx_nil)))
  · unfold sem_check_hours at h
    split at h
    · exact ⟨_, h, fun _ _ q => .inr q, fun _ _ q => .inr q, fun _ _ q => q, fun _ _ q => q⟩
    · exact h.elim
theorem d_check_hours {P : Program} {w : World} {K : PySem.W.Frag} {mg : Str → Option Value} {base : Heap} (E : Facts K mg) : DefD P w K mg base 4 "check_hours" sem_check_hours := by
  obtain ⟨f, fd, F, hm⟩ := E.f_check_hours
  exact ⟨f, fd, ["hours"], fn_check_hours E F, hm, F.kp, F.binds fun _ _ _ _ _ _ us hl => match us, hl with | [_], _ => rfl⟩
theorem fn_are_draws {P : Program} {w : World} {K : PySem.W.Frag} {mg : Str → Option Value} {base : Heap} (E : Facts K mg) {f : Addr} {fd : FuncData} (F : Fun K "are_draws" "are_draws" s_are_draws f fd) : FnD P w K mg base 4 f fd ["hours", "thing"] sem_are_draws := by
  refine fn_body (body := b_are_draws) F sc_are_draws (fun ds M G h => ?_) (fun cdv A outer s H gd hr => ?_) (fun ds M G h => ?_)
  · unfold sem_are_draws at h
    split at h
    · rfl
    · exact h.elim
  · exact (ssx_one (sx_ret (ps_ret (ex_def (d_are_integers E) gd hr (by decide) (by rfl) (ax_cons (ex_var 1 (pv 1)) (ax_cons (ex_var 0 (pv 0)) (ax_cons (ex_c pe_int) (ax_cons (ex_c (pe_gk (by rfl) E.c_MOST_RATE)) (ax_nil)))))))))
  · unfold sem_are_draws at h
    split at h
    · exact ⟨_, h, fun _ _ q => .inr q, fun _ _ q => .inr q, fun _ _ q => q, fun _ _ q => q⟩
    · exact h.elim
theorem d_are_draws {P : Program} {w : World} {K : PySem.W.Frag} {mg : Str → Option Value} {base : Heap} (E : Facts K mg) : DefD P w K mg base 4 "are_draws" sem_are_draws := by
  obtain ⟨f, fd, F, hm⟩ := E.f_are_draws
  exact ⟨f, fd, ["hours", "thing"], fn_are_draws E F, hm, F.kp, F.binds fun _ _ _ _ _ _ us hl => match us, hl with | [_, _], _ => rfl⟩
theorem fn_car_thing {P : Program} {w : World} {K : PySem.W.Frag} {mg : Str → Option Value} {base : Heap} (E : Facts K mg) {f : Addr} {fd : FuncData} (F : Fun K "car_thing" "car_thing" s_car_thing f fd) : FnD P w K mg base 5 f fd ["hours", "come", "leave", "rate", "least", "most"] sem_car_thing := by
  refine fn_body (body := b_car_thing) F sc_car_thing (fun ds M G h => ?_) (fun cdv A outer s H gd hr => ?_) (fun ds M G h => ?_)
  · unfold sem_car_thing at h
    split at h
    · rfl
    · exact h.elim
  · exact (ssx_cons (sx_expr (ps_expr (ex_def (d_check_hours E) gd hr (by decide) (by rfl) (ax_cons (ex_var 0 (pv 0)) (ax_nil)))))
    (ssx_cons (sx_if (PW.pt (wx_or (tx_not (tx_val (ex_def (d_is_within E) gd hr (by decide) (by rfl) (ax_cons (ex_var 1 (pv 1)) (ax_cons (ex_c pe_int) (ax_cons (ex_op o_sub (ex_var 0 (pv 0)) (ex_c pe_int)) (ax_nil))))))) (wx_or (tx_not (tx_val (ex_def (d_is_within E) gd hr (by decide) (by rfl) (ax_cons (ex_var 2 (pv 2)) (ax_cons (ex_op o_add (ex_var 1 (pv 1)) (ex_c pe_int)) (ax_cons (ex_var 0 (pv 0)) (ax_nil))))))) (wx_or1 (tx_not (tx_val (ex_def (d_is_rate E) gd hr (by decide) (by rfl) (ax_cons (ex_var 3 (pv 3)) (ax_nil))))))))) (ssx_one (sx_never)) (ssx_nil))
    (ssx_cons (sx_if (PW.pt (wx_or (tx_not (tx_val (ex_def (d_is_within E) gd hr (by decide) (by rfl) (ax_cons (ex_var 5 (pv 5)) (ax_cons (ex_c pe_int) (ax_cons (ex_c (pe_gk (by rfl) E.c_MOST_SUM)) (ax_nil))))))) (wx_or1 (tx_not (tx_val (ex_def (d_is_within E) gd hr (by decide) (by rfl) (ax_cons (ex_var 4 (pv 4)) (ax_cons (ex_c pe_int) (ax_cons (ex_var 5 (pv 5)) (ax_nil)))))))))) (ssx_one (sx_never)) (ssx_nil))
    (ssx_one (sx_ret (ps_ret (ex_tup (ax_cons (ex_def (d_rated_between E) gd hr (by decide) (by rfl) (ax_cons (ex_var 0 (pv 0)) (ax_cons (ex_var 1 (pv 1)) (ax_cons (ex_op o_sub (ex_var 2 (pv 2)) (ex_c pe_int)) (ax_cons (ex_var 3 (pv 3)) (ax_nil)))))) (ax_cons (ex_def (d_summed_from E) gd hr (by decide) (by rfl) (ax_cons (ex_var 0 (pv 0)) (ax_cons (ex_op o_sub (ex_var 2 (pv 2)) (ex_c pe_int)) (ax_cons (ex_tup (ax_cons (ex_c pe_int) (ax_cons (ex_var 5 (pv 5)) (ax_nil)))) (ax_cons (ex_tup (ax_cons (ex_var 4 (pv 4)) (ax_cons (ex_var 5 (pv 5)) (ax_nil)))) (ax_nil)))))) (ax_nil))))))))))
  · unfold sem_car_thing at h
    split at h
    · exact ⟨_, h, fun _ _ q => .inr q, fun _ _ q => .inr q, fun _ _ q => q, fun _ _ q => q⟩
    · exact h.elim
theorem d_car_thing {P : Program} {w : World} {K : PySem.W.Frag} {mg : Str → Option Value} {base : Heap} (E : Facts K mg) : DefD P w K mg base 5 "car_thing" sem_car_thing := by
  obtain ⟨f, fd, F, hm⟩ := E.f_car_thing
  exact ⟨f, fd, ["hours", "come", "leave", "rate", "least", "most"], fn_car_thing E F, hm, F.kp, F.binds fun _ _ _ _ _ _ us hl => match us, hl with | [_, _, _, _, _, _], _ => rfl⟩
theorem fn_boiler_thing {P : Program} {w : World} {K : PySem.W.Frag} {mg : Str → Option Value} {base : Heap} (E : Facts K mg) {f : Addr} {fd : FuncData} (F : Fun K "boiler_thing" "boiler_thing" s_boiler_thing f fd) : FnD P w K mg base 5 f fd ["hours", "start", "low", "high", "draws", "rate"] sem_boiler_thing := by
  refine fn_body (body := b_boiler_thing) F sc_boiler_thing (fun ds M G h => ?_) (fun cdv A outer s H gd hr => ?_) (fun ds M G h => ?_)
  · unfold sem_boiler_thing at h
    split at h
    · rfl
    · exact h.elim
  · exact (ssx_cons (sx_expr (ps_expr (ex_def (d_check_hours E) gd hr (by decide) (by rfl) (ax_cons (ex_var 0 (pv 0)) (ax_nil)))))
    (ssx_cons (sx_if (PW.pt (wx_or (tx_not (tx_val (ex_b1 (b_all rfl) (by rfl) E.n_all (by decide +kernel) (ex_fz (ex_lc (pe_lc (own := [("one", 6)]) rfl sc_boiler_thing.nd (ix_seqI (ex_tup (ax_cons (ex_var 1 (pv 1)) (ax_cons (ex_var 2 (pv 2)) (ax_cons (ex_var 3 (pv 3)) (ax_nil)))))) (blkOk_by (own := [("one", 6)]) (N := n_boiler_thing) (sc := defScope s_boiler_thing) (by decide +kernel)) (fun _ _ _ _ _ => gx_name 6 (pg_name (i := 6) sc_boiler_thing.nd rfl (by first | exact .inl rfl | exact .inr rfl))) (fun _ _ _ _ _ => tsx_nil) (fun _ _ _ _ _ => ex_def (d_is_room E) gd hr (by decide) (by rfl) (ax_cons (ex_var 6 (pv 6)) (ax_nil)))) (by decide)))))) (wx_or1 (tx_cmp o_gt (ex_var 2 (pv 2)) (ex_var 3 (pv 3)) (nomark _))))) (ssx_one (sx_never)) (ssx_nil))
    (ssx_cons (sx_if (PW.pt (wx_or (tx_not (tx_val (ex_def (d_are_draws E) gd hr (by decide) (by rfl) (ax_cons (ex_var 0 (pv 0)) (ax_cons (ex_var 4 (pv 4)) (ax_nil)))))) (wx_or1 (tx_not (tx_val (ex_def (d_is_rate E) gd hr (by decide) (by rfl) (ax_cons (ex_var 5 (pv 5)) (ax_nil)))))))) (ssx_one (sx_never)) (ssx_nil))
    (ssx_cons (sx_par2 7 8 (ps_par (i := 7) (j := 8) rfl sc_boiler_thing.nd rfl rfl (by decide) rfl rfl (ax_cons (ex_lst (ax_nil)) (ax_cons (ex_c pe_int) (ax_nil))) (by rfl)))
    (ssx_cons (sx_for (ps_for PassesOwn.never rfl (ix_seqI (ex_var 4 (pv 4))) (gx_name 9 (pg_name (i := 9) sc_boiler_thing.nd rfl (by first | exact .inl rfl | exact .inr rfl))) (ssx_cons (sx_set 8 (ps_set (i := 8) sc_boiler_thing.nd rfl (by first | exact .inl rfl | exact .inr rfl) (ex_op o_add (ex_var 8 (pv 8)) (ex_var 9 (pv 9)))))
    (ssx_one (sx_expr (ps_expr (ex_append (pe_bm PySem.F.plainAttrs_list PySem.F.slot_list_append PySem.F.type_list_append mt_append (ex_var 7 (pv 7)) (ax_cons (ex_tup (ax_cons (ex_op o_add (ex_op o_sub (ex_var 2 (pv 2)) (ex_var 1 (pv 1))) (ex_var 8 (pv 8))) (ax_cons (ex_op o_add (ex_op o_sub (ex_var 3 (pv 3)) (ex_var 1 (pv 1))) (ex_var 8 (pv 8))) (ax_nil)))) ax_nil)))))))))
    (ssx_one (sx_ret (ps_ret (ex_tup (ax_cons (ex_op o_mul (ex_tup (ax_cons (ex_tup (ax_cons (ex_c pe_int) (ax_cons (ex_var 5 (pv 5)) (ax_nil)))) (ax_nil))) (ex_var 0 (pv 0))) (ax_cons (ex_t1 b_tuple (by rfl) E.n_tuple (by decide +kernel) (ex_var 7 (pv 7))) (ax_nil))))))))))))
  · unfold sem_boiler_thing at h
    split at h
    · exact ⟨_, h, fun _ _ q => .inr q, fun _ _ q => .inr q, fun _ _ q => q, fun _ _ q => q⟩
    · exact h.elim
theorem d_boiler_thing {P : Program} {w : World} {K : PySem.W.Frag} {mg : Str → Option Value} {base : Heap} (E : Facts K mg) : DefD P w K mg base 5 "boiler_thing" sem_boiler_thing := by
  obtain ⟨f, fd, F, hm⟩ := E.f_boiler_thing
  exact ⟨f, fd, ["hours", "start", "low", "high", "draws", "rate"], fn_boiler_thing E F, hm, F.kp, F.binds fun _ _ _ _ _ _ us hl => match us, hl with | [_, _, _, _, _, _], _ => rfl⟩
theorem fn_store_thing {P : Program} {w : World} {K : PySem.W.Frag} {mg : Str → Option Value} {base : Heap} (E : Facts K mg) {f : Addr} {fd : FuncData} (F : Fun K "store_thing" "store_thing" s_store_thing f fd) : FnD P w K mg base 5 f fd ["hours", "start", "room", "into", "out", "last"] sem_store_thing := by
  refine fn_body (body := b_store_thing) F sc_store_thing (fun ds M G h => ?_) (fun cdv A outer s H gd hr => ?_) (fun ds M G h => ?_)
  · unfold sem_store_thing at h
    split at h
    · rfl
    · exact h.elim
  · exact (ssx_cons (sx_expr (ps_expr (ex_def (d_check_hours E) gd hr (by decide) (by rfl) (ax_cons (ex_var 0 (pv 0)) (ax_nil)))))
    (ssx_cons (sx_if (PW.pt (wx_or (tx_not (tx_val (ex_def (d_is_room E) gd hr (by decide) (by rfl) (ax_cons (ex_var 2 (pv 2)) (ax_nil))))) (wx_or (tx_not (tx_val (ex_def (d_is_within E) gd hr (by decide) (by rfl) (ax_cons (ex_var 1 (pv 1)) (ax_cons (ex_c pe_int) (ax_cons (ex_var 2 (pv 2)) (ax_nil))))))) (wx_or1 (tx_not (tx_val (ex_def (d_is_within E) gd hr (by decide) (by rfl) (ax_cons (ex_var 5 (pv 5)) (ax_cons (ex_c pe_int) (ax_cons (ex_var 2 (pv 2)) (ax_nil))))))))))) (ssx_one (sx_never)) (ssx_nil))
    (ssx_cons (sx_if (PW.pt (wx_or (tx_not (tx_val (ex_def (d_is_rate E) gd hr (by decide) (by rfl) (ax_cons (ex_var 3 (pv 3)) (ax_nil))))) (wx_or1 (tx_not (tx_val (ex_def (d_is_rate E) gd hr (by decide) (by rfl) (ax_cons (ex_var 4 (pv 4)) (ax_nil)))))))) (ssx_one (sx_never)) (ssx_nil))
    (ssx_cons (sx_set 6 (ps_set (i := 6) sc_store_thing.nd rfl (by first | exact .inl rfl | exact .inr rfl) (ex_def (d_summed_from E) gd hr (by decide) (by rfl) (ax_cons (ex_var 0 (pv 0)) (ax_cons (ex_op o_sub (ex_var 0 (pv 0)) (ex_c pe_int)) (ax_cons (ex_tup (ax_cons (ex_op o_sub (ex_c pe_int) (ex_var 1 (pv 1))) (ax_cons (ex_op o_sub (ex_var 2 (pv 2)) (ex_var 1 (pv 1))) (ax_nil)))) (ax_cons (ex_tup (ax_cons (ex_op o_sub (ex_var 5 (pv 5)) (ex_var 1 (pv 1))) (ax_cons (ex_op o_sub (ex_var 2 (pv 2)) (ex_var 1 (pv 1))) (ax_nil)))) (ax_nil))))))))
    (ssx_one (sx_ret (ps_ret (ex_tup (ax_cons (ex_op o_mul (ex_tup (ax_cons (ex_tup (ax_cons (ex_op o_sub (ex_c pe_int) (ex_var 4 (pv 4))) (ax_cons (ex_var 3 (pv 3)) (ax_nil)))) (ax_nil))) (ex_var 0 (pv 0))) (ax_cons (ex_var 6 (pv 6)) (ax_nil)))))))))))
  · unfold sem_store_thing at h
    split at h
    · exact ⟨_, h, fun _ _ q => .inr q, fun _ _ q => .inr q, fun _ _ q => q, fun _ _ q => q⟩
    · exact h.elim
theorem d_store_thing {P : Program} {w : World} {K : PySem.W.Frag} {mg : Str → Option Value} {base : Heap} (E : Facts K mg) : DefD P w K mg base 5 "store_thing" sem_store_thing := by
  obtain ⟨f, fd, F, hm⟩ := E.f_store_thing
  exact ⟨f, fd, ["hours", "start", "room", "into", "out", "last"], fn_store_thing E F, hm, F.kp, F.binds fun _ _ _ _ _ _ us hl => match us, hl with | [_, _, _, _, _, _], _ => rfl⟩
theorem fn_run_thing {P : Program} {w : World} {K : PySem.W.Frag} {mg : Str → Option Value} {base : Heap} (E : Facts K mg) {f : Addr} {fd : FuncData} (F : Fun K "run_thing" "run_thing" s_run_thing f fd) : FnD P w K mg base 5 f fd ["hours", "first", "last", "amount", "rate"] sem_run_thing := by
  refine fn_body (body := b_run_thing) F sc_run_thing (fun ds M G h => ?_) (fun cdv A outer s H gd hr => ?_) (fun ds M G h => ?_)
  · unfold sem_run_thing at h
    split at h
    · rfl
    · exact h.elim
  · exact (ssx_cons (sx_expr (ps_expr (ex_def (d_check_hours E) gd hr (by decide) (by rfl) (ax_cons (ex_var 0 (pv 0)) (ax_nil)))))
    (ssx_cons (sx_if (PW.pt (wx_or (tx_not (tx_val (ex_def (d_is_within E) gd hr (by decide) (by rfl) (ax_cons (ex_var 1 (pv 1)) (ax_cons (ex_c pe_int) (ax_cons (ex_op o_sub (ex_var 0 (pv 0)) (ex_c pe_int)) (ax_nil))))))) (wx_or1 (tx_not (tx_val (ex_def (d_is_within E) gd hr (by decide) (by rfl) (ax_cons (ex_var 2 (pv 2)) (ax_cons (ex_var 1 (pv 1)) (ax_cons (ex_op o_sub (ex_var 0 (pv 0)) (ex_c pe_int)) (ax_nil)))))))))) (ssx_one (sx_never)) (ssx_nil))
    (ssx_cons (sx_if (PW.pt (wx_or (tx_not (tx_val (ex_def (d_is_within E) gd hr (by decide) (by rfl) (ax_cons (ex_var 3 (pv 3)) (ax_cons (ex_c pe_int) (ax_cons (ex_c (pe_gk (by rfl) E.c_MOST_AMOUNT)) (ax_nil))))))) (wx_or1 (tx_not (tx_val (ex_def (d_is_rate E) gd hr (by decide) (by rfl) (ax_cons (ex_var 4 (pv 4)) (ax_nil)))))))) (ssx_one (sx_never)) (ssx_nil))
    (ssx_one (sx_ret (ps_ret (ex_tup (ax_cons (ex_def (d_rated_between E) gd hr (by decide) (by rfl) (ax_cons (ex_var 0 (pv 0)) (ax_cons (ex_var 1 (pv 1)) (ax_cons (ex_var 2 (pv 2)) (ax_cons (ex_var 4 (pv 4)) (ax_nil)))))) (ax_cons (ex_def (d_summed_from E) gd hr (by decide) (by rfl) (ax_cons (ex_var 0 (pv 0)) (ax_cons (ex_var 2 (pv 2)) (ax_cons (ex_tup (ax_cons (ex_c pe_int) (ax_cons (ex_var 3 (pv 3)) (ax_nil)))) (ax_cons (ex_tup (ax_cons (ex_var 3 (pv 3)) (ax_cons (ex_var 3 (pv 3)) (ax_nil)))) (ax_nil)))))) (ax_nil))))))))))
  · unfold sem_run_thing at h
    split at h
    · exact ⟨_, h, fun _ _ q => .inr q, fun _ _ q => .inr q, fun _ _ q => q, fun _ _ q => q⟩
    · exact h.elim
theorem d_run_thing {P : Program} {w : World} {K : PySem.W.Frag} {mg : Str → Option Value} {base : Heap} (E : Facts K mg) : DefD P w K mg base 5 "run_thing" sem_run_thing := by
  obtain ⟨f, fd, F, hm⟩ := E.f_run_thing
  exact ⟨f, fd, ["hours", "first", "last", "amount", "rate"], fn_run_thing E F, hm, F.kp, F.binds fun _ _ _ _ _ _ us hl => match us, hl with | [_, _, _, _, _], _ => rfl⟩
theorem fn_plain_thing {P : Program} {w : World} {K : PySem.W.Frag} {mg : Str → Option Value} {base : Heap} (E : Facts K mg) {f : Addr} {fd : FuncData} (F : Fun K "plain_thing" "plain_thing" s_plain_thing f fd) : FnD P w K mg base 5 f fd ["hours", "plan"] sem_plain_thing := by
  refine fn_body (body := b_plain_thing) F sc_plain_thing (fun ds M G h => ?_) (fun cdv A outer s H gd hr => ?_) (fun ds M G h => ?_)
  · unfold sem_plain_thing at h
    split at h
    · rfl
    · exact h.elim
  · exact (ssx_cons (sx_expr (ps_expr (ex_def (d_check_hours E) gd hr (by decide) (by rfl) (ax_cons (ex_var 0 (pv 0)) (ax_nil)))))
    (ssx_cons (sx_if (tx_not (tx_val (ex_def (d_are_integers E) gd hr (by decide) (by rfl) (ax_cons (ex_var 1 (pv 1)) (ax_cons (ex_var 0 (pv 0)) (ax_cons (ex_op o_sub (ex_c pe_int) (ex_c (pe_gk (by rfl) E.c_MOST_RATE))) (ax_cons (ex_c (pe_gk (by rfl) E.c_MOST_RATE)) (ax_nil)))))))) (ssx_one (sx_never)) (ssx_nil))
    (ssx_one (sx_ret (ps_ret (ex_def (d_plain_of E) gd hr (by decide) (by rfl) (ax_cons (ex_var 1 (pv 1)) (ax_nil))))))))
  · unfold sem_plain_thing at h
    split at h
    · exact ⟨_, h, fun _ _ q => .inr q, fun _ _ q => .inr q, fun _ _ q => q, fun _ _ q => q⟩
    · exact h.elim
theorem d_plain_thing {P : Program} {w : World} {K : PySem.W.Frag} {mg : Str → Option Value} {base : Heap} (E : Facts K mg) : DefD P w K mg base 5 "plain_thing" sem_plain_thing := by
  obtain ⟨f, fd, F, hm⟩ := E.f_plain_thing
  exact ⟨f, fd, ["hours", "plan"], fn_plain_thing E F, hm, F.kp, F.binds fun _ _ _ _ _ _ us hl => match us, hl with | [_, _], _ => rfl⟩
theorem fn__law_car {P : Program} {w : World} {K : PySem.W.Frag} {mg : Str → Option Value} {base : Heap} (E : Facts K mg) {f : Addr} {fd : FuncData} (F : Fun K "_law_car" "_law_car" s__law_car f fd) : FnD P w K mg base 6 f fd ["hand", "hours"] sem__law_car := by
  refine fn_body (body := b__law_car) F sc__law_car (fun ds M G h => ?_) (fun cdv A outer s H gd hr => ?_) (fun ds M G h => ?_)
  · unfold sem__law_car at h
    split at h
    · rfl
    · exact h.elim
  · exact (ssx_cons (sx_set 2 (ps_set (i := 2) sc__law_car.nd rfl (by first | exact .inl rfl | exact .inr rfl) (ex_def (d__law_draw E) gd hr (by decide) (by rfl) (ax_cons (ex_var 0 (pv 0)) (ax_cons (ex_var 1 (pv 1)) (ax_nil))))))
    (ssx_cons (sx_set 3 (ps_set (i := 3) sc__law_car.nd rfl (by first | exact .inl rfl | exact .inr rfl) (ex_op o_add (ex_op o_add (ex_var 2 (pv 2)) (ex_c pe_int)) (ex_def (d__law_draw E) gd hr (by decide) (by rfl) (ax_cons (ex_var 0 (pv 0)) (ax_cons (ex_op o_sub (ex_var 1 (pv 1)) (ex_var 2 (pv 2))) (ax_nil)))))))
    (ssx_cons (sx_parN (n := 2) (ps_asg (pe_tup (ax_cons (ex_def (d__law_draw E) gd hr (by decide) (by rfl) (ax_cons (ex_var 0 (pv 0)) (ax_cons (ex_c pe_int) (ax_nil)))) (ax_cons (ex_def (d__law_any E) gd hr (by decide) (by rfl) (ax_cons (ex_var 0 (pv 0)) (ax_cons (ex_fz (ex_lst (ax_cons (ex_c pe_int) (ax_cons (ex_c pe_int) (ax_cons (ex_def (d__law_draw E) gd hr (by decide) (by rfl) (ax_cons (ex_var 0 (pv 0)) (ax_cons (ex_c pe_int) (ax_nil)))) (ax_cons (ex_def (d__law_draw E) gd hr (by decide) (by rfl) (ax_cons (ex_var 0 (pv 0)) (ax_cons (ex_c pe_int) (ax_nil)))) (ax_nil))))))) (ax_nil)))) (ax_nil)))) (pg_tup rfl (gsx_cons (gx_name 4 (pg_name (i := 4) sc__law_car.nd rfl (by first | exact .inl rfl | exact .inr rfl))) (gsx_cons (gx_name 5 (pg_name (i := 5) sc__law_car.nd rfl (by first | exact .inl rfl | exact .inr rfl))) (gsx_nil))))) (by intro ρ M P h; simpa [dCons, dNil] using h))
    (ssx_cons (sx_set 6 (ps_set (i := 6) sc__law_car.nd rfl (by first | exact .inl rfl | exact .inr rfl) (ex_b2 (b_min2 rfl) (by rfl) E.n_min (by decide +kernel) (ex_c pe_int) (ex_op o_add (ex_var 5 (pv 5)) (ex_def (d__law_any E) gd hr (by decide) (by rfl) (ax_cons (ex_var 0 (pv 0)) (ax_cons (ex_fz (ex_lst (ax_cons (ex_c pe_int) (ax_cons (ex_c pe_int) (ax_cons (ex_c pe_int) (ax_cons (ex_c pe_int) (ax_nil))))))) (ax_nil))))))))
    (ssx_cons (sx_set 8 (ps_set (i := 8) sc__law_car.nd rfl (by first | exact .inl rfl | exact .inr rfl) (ex_t1 b_tuple (by rfl) E.n_tuple (by decide +kernel) (ex_fz (ex_lc (pe_lc (own := [("hour", 7)]) rfl sc__law_car.nd (ix_range1 (by rfl) E.n_range (ex_var 1 (pv 1))) (blkOk_by (own := [("hour", 7)]) (N := n__law_car) (sc := defScope s__law_car) (by decide +kernel)) (fun _ _ _ _ _ => gx_name 7 (pg_name (i := 7) sc__law_car.nd rfl (by first | exact .inl rfl | exact .inr rfl))) (fun _ _ _ _ _ => tsx_nil) (fun _ _ _ _ _ => ex_if (tx_chain o_le o_lt (ex_var 2 (pv 2)) (ex_var 7 (pv 7)) (ex_var 3 (pv 3))) (ex_tup (ax_cons (ex_c pe_int) (ax_cons (ex_var 4 (pv 4)) (ax_nil)))) (ex_tup (ax_cons (ex_c pe_int) (ax_cons (ex_c pe_int) (ax_nil)))))) (by decide))))))
    (ssx_cons (sx_set 9 (ps_set (i := 9) sc__law_car.nd rfl (by first | exact .inl rfl | exact .inr rfl) (ex_t1 b_tuple (by rfl) E.n_tuple (by decide +kernel) (ex_fz (ex_lc (pe_lc (own := [("hour", 7)]) rfl sc__law_car.nd (ix_range1 (by rfl) E.n_range (ex_var 1 (pv 1))) (blkOk_by (own := [("hour", 7)]) (N := n__law_car) (sc := defScope s__law_car) (by decide +kernel)) (fun _ _ _ _ _ => gx_name 7 (pg_name (i := 7) sc__law_car.nd rfl (by first | exact .inl rfl | exact .inr rfl))) (fun _ _ _ _ _ => tsx_nil) (fun _ _ _ _ _ => ex_tup (ax_cons (ex_if (tx_cmp o_ge (ex_var 7 (pv 7)) (ex_op o_sub (ex_var 3 (pv 3)) (ex_c pe_int)) (nomark _)) (ex_var 5 (pv 5)) (ex_c pe_int)) (ax_cons (ex_var 6 (pv 6)) (ax_nil))))) (by decide))))))
    (ssx_cons (sx_set 10 (ps_set (i := 10) sc__law_car.nd rfl (by first | exact .inl rfl | exact .inr rfl) (ex_def (d_car_thing E) gd hr (by decide) (by rfl) (ax_cons (ex_var 1 (pv 1)) (ax_cons (ex_var 2 (pv 2)) (ax_cons (ex_var 3 (pv 3)) (ax_cons (ex_var 4 (pv 4)) (ax_cons (ex_var 5 (pv 5)) (ax_cons (ex_var 6 (pv 6)) (ax_nil))))))))))
    (ssx_cons (sx_if (tx_not (tx_val (ex_def (d__law_is E) gd hr (by decide) (by rfl) (ax_cons (ex_var 10 (pv 10)) (ax_cons (ex_tup (ax_cons (ex_var 8 (pv 8)) (ax_cons (ex_var 9 (pv 9)) (ax_nil)))) (ax_nil)))))) (ssx_one (sx_ret (ps_ret (ex_c pe_bl)))) (ssx_nil))
    (ssx_cons (sx_if (tx_cmp o_gt (ex_var 1 (pv 1)) (ex_c pe_int) (nomark _)) (ssx_one (sx_ret (ps_ret (ex_c pe_bl)))) (ssx_nil))
    (ssx_cons (sx_set 11 (ps_set (i := 11) sc__law_car.nd rfl (by first | exact .inl rfl | exact .inr rfl) (ex_lst (ax_nil))))
    (ssx_cons (sx_for (ps_for PassesOwn.never rfl (ix_seqI (ex_def (d__law_rows E) gd hr (by decide) (by rfl) (ax_cons (ex_c pe_int) (ax_cons (ex_var 4 (pv 4)) (ax_cons (ex_var 1 (pv 1)) (ax_nil)))))) (gx_name 12 (pg_name (i := 12) sc__law_car.nd rfl (by first | exact .inl rfl | exact .inr rfl))) (ssx_cons (sx_lcFz (ps_setLc (i := 14) (own := [("hour", 7), ("amount", 13)]) rfl sc__law_car.nd rfl rfl (sw_true rfl rfl rfl (by decide +kernel)) (ix_enum (by rfl) E.n_enumerate (ex_var 12 (pv 12))) (blkOk_by (own := [("hour", 7), ("amount", 13)]) (N := n__law_car) (sc := defScope s__law_car) (by decide +kernel)) (fun _ _ _ _ _ => gx_tup rfl (gsx_cons (gx_name 7 (pg_name (i := 7) sc__law_car.nd rfl (by first | exact .inl rfl | exact .inr rfl))) (gsx_cons (gx_name 13 (pg_name (i := 13) sc__law_car.nd rfl (by first | exact .inl rfl | exact .inr rfl))) (gsx_nil)))) (fun _ _ _ _ _ => tsx_one (tx_not (tx_chain o_le o_lt (ex_var 2 (pv 2)) (ex_var 7 (pv 7)) (ex_var 3 (pv 3))))) (fun _ _ _ _ _ => ex_var 13 (pv 13))) (by decide))
    (ssx_one (sx_if (PW.pt (wx_and (tx_cmp (o_eq hr.units) (ex_b1 (b_sum rfl) (by rfl) E.n_sum (by decide +kernel) (ex_var 14 (pv 14))) (ex_c pe_int) (nomark _)) (wx_and1 (tx_chain o_le o_le (ex_var 5 (pv 5)) (ex_b1 (b_sum rfl) (by rfl) E.n_sum (by decide +kernel) (ex_var 12 (pv 12))) (ex_var 6 (pv 6)))))) (ssx_one (sx_expr (ps_expr (ex_append (pe_bm PySem.F.plainAttrs_list PySem.F.slot_list_append PySem.F.type_list_append mt_append (ex_var 11 (pv 11)) (ax_cons (ex_var 12 (pv 12)) ax_nil)))))) (ssx_nil))))))
    (ssx_one (sx_ret (ps_ret (ex_cmp (o_eq hr.units) (ex_def (d__law_plans E) gd hr (by decide) (by rfl) (ax_cons (ex_var 10 (pv 10)) (ax_nil))) (ex_var 11 (pv 11)) (nomark _))))))))))))))))
  · unfold sem__law_car at h
    split at h
    · exact ⟨_, h, fun _ _ q => .inr q, fun _ _ q => .inr q, fun _ _ q => q, fun _ _ q => q⟩
    · exact h.elim
theorem d__law_car {P : Program} {w : World} {K : PySem.W.Frag} {mg : Str → Option Value} {base : Heap} (E : Facts K mg) : DefD P w K mg base 6 "_law_car" sem__law_car := by
  obtain ⟨f, fd, F, hm⟩ := E.f__law_car
  exact ⟨f, fd, ["hand", "hours"], fn__law_car E F, hm, F.kp, F.binds fun _ _ _ _ _ _ us hl => match us, hl with | [_, _], _ => rfl⟩
theorem fn__law_boiler {P : Program} {w : World} {K : PySem.W.Frag} {mg : Str → Option Value} {base : Heap} (E : Facts K mg) {f : Addr} {fd : FuncData} (F : Fun K "_law_boiler" "_law_boiler" s__law_boiler f fd) : FnD P w K mg base 6 f fd ["hand", "hours"] sem__law_boiler := by
  refine fn_body (body := b__law_boiler) F sc__law_boiler (fun ds M G h => ?_) (fun cdv A outer s H gd hr => ?_) (fun ds M G h => ?_)
  · unfold sem__law_boiler at h
    split at h
    · rfl
    · exact h.elim
  · exact (ssx_cons (sx_set 2 (ps_set (i := 2) sc__law_boiler.nd rfl (by first | exact .inl rfl | exact .inr rfl) (ex_def (d__law_draw E) gd hr (by decide) (by rfl) (ax_cons (ex_var 0 (pv 0)) (ax_cons (ex_c pe_int) (ax_nil))))))
    (ssx_cons (sx_set 3 (ps_set (i := 3) sc__law_boiler.nd rfl (by first | exact .inl rfl | exact .inr rfl) (ex_op o_add (ex_var 2 (pv 2)) (ex_def (d__law_any E) gd hr (by decide) (by rfl) (ax_cons (ex_var 0 (pv 0)) (ax_cons (ex_fz (ex_lst (ax_cons (ex_c pe_int) (ax_cons (ex_b2 (b_min2 rfl) (by rfl) E.n_min (by decide +kernel) (ex_c pe_int) (ex_op o_sub (ex_c pe_int) (ex_var 2 (pv 2)))) (ax_cons (ex_op o_sub (ex_c pe_int) (ex_var 2 (pv 2))) (ax_nil)))))) (ax_nil)))))))
    (ssx_cons (sx_parN (n := 2) (ps_asg (pe_tup (ax_cons (ex_def (d__law_any E) gd hr (by decide) (by rfl) (ax_cons (ex_var 0 (pv 0)) (ax_cons (ex_fz (ex_lst (ax_cons (ex_var 2 (pv 2)) (ax_cons (ex_var 3 (pv 3)) (ax_cons (ex_def (d__law_draw E) gd hr (by decide) (by rfl) (ax_cons (ex_var 0 (pv 0)) (ax_cons (ex_c pe_int) (ax_nil)))) (ax_nil)))))) (ax_nil)))) (ax_cons (ex_def (d__law_draw E) gd hr (by decide) (by rfl) (ax_cons (ex_var 0 (pv 0)) (ax_cons (ex_c pe_int) (ax_nil)))) (ax_nil)))) (pg_tup rfl (gsx_cons (gx_name 4 (pg_name (i := 4) sc__law_boiler.nd rfl (by first | exact .inl rfl | exact .inr rfl))) (gsx_cons (gx_name 5 (pg_name (i := 5) sc__law_boiler.nd rfl (by first | exact .inl rfl | exact .inr rfl))) (gsx_nil))))) (by intro ρ M P h; simpa [dCons, dNil] using h))
    (ssx_cons (sx_set 7 (ps_set (i := 7) sc__law_boiler.nd rfl (by first | exact .inl rfl | exact .inr rfl) (ex_t1 b_tuple (by rfl) E.n_tuple (by decide +kernel) (ex_fz (ex_lc (pe_lc (own := [("hour", 6)]) rfl sc__law_boiler.nd (ix_range1 (by rfl) E.n_range (ex_var 1 (pv 1))) (blkOk_by (own := [("hour", 6)]) (N := n__law_boiler) (sc := defScope s__law_boiler) (by decide +kernel)) (fun _ _ _ _ _ => gx_name 6 (pg_name (i := 6) sc__law_boiler.nd rfl (by first | exact .inl rfl | exact .inr rfl))) (fun _ _ _ _ _ => tsx_nil) (fun _ _ _ _ _ => ex_def (d__law_draw E) gd hr (by decide) (by rfl) (ax_cons (ex_var 0 (pv 0)) (ax_cons (ex_c pe_int) (ax_nil))))) (by decide))))))
    (ssx_cons (sx_lcFz (ps_setLc (i := 8) (own := [("hour", 6)]) rfl sc__law_boiler.nd rfl rfl (sw_true rfl rfl rfl (by decide +kernel)) (ix_range1 (by rfl) E.n_range (ex_var 1 (pv 1))) (blkOk_by (own := [("hour", 6)]) (N := n__law_boiler) (sc := defScope s__law_boiler) (by decide +kernel)) (fun _ _ _ _ _ => gx_name 6 (pg_name (i := 6) sc__law_boiler.nd rfl (by first | exact .inl rfl | exact .inr rfl))) (fun _ _ _ _ _ => tsx_nil) (fun _ _ _ _ _ => ex_b1 (b_sum rfl) (by rfl) E.n_sum (by decide +kernel) (ex_fz (ex_slice (ex_var 7 (pv 7)) px_none (px_some (ex_op o_add (ex_var 6 (pv 6)) (ex_c pe_int))))))) (by decide))
    (ssx_cons (sx_set 10 (ps_set (i := 10) sc__law_boiler.nd rfl (by first | exact .inl rfl | exact .inr rfl) (ex_t1 b_tuple (by rfl) E.n_tuple (by decide +kernel) (ex_fz (ex_lc (pe_lc (own := [("more", 9)]) rfl sc__law_boiler.nd (ix_seqI (ex_var 8 (pv 8))) (blkOk_by (own := [("more", 9)]) (N := n__law_boiler) (sc := defScope s__law_boiler) (by decide +kernel)) (fun _ _ _ _ _ => gx_name 9 (pg_name (i := 9) sc__law_boiler.nd rfl (by first | exact .inl rfl | exact .inr rfl))) (fun _ _ _ _ _ => tsx_nil) (fun _ _ _ _ _ => ex_tup (ax_cons (ex_op o_add (ex_op o_sub (ex_var 2 (pv 2)) (ex_var 4 (pv 4))) (ex_var 9 (pv 9))) (ax_cons (ex_op o_add (ex_op o_sub (ex_var 3 (pv 3)) (ex_var 4 (pv 4))) (ex_var 9 (pv 9))) (ax_nil))))) (by decide))))))
    (ssx_cons (sx_set 11 (ps_set (i := 11) sc__law_boiler.nd rfl (by first | exact .inl rfl | exact .inr rfl) (ex_def (d_boiler_thing E) gd hr (by decide) (by rfl) (ax_cons (ex_var 1 (pv 1)) (ax_cons (ex_var 4 (pv 4)) (ax_cons (ex_var 2 (pv 2)) (ax_cons (ex_var 3 (pv 3)) (ax_cons (ex_var 7 (pv 7)) (ax_cons (ex_var 5 (pv 5)) (ax_nil))))))))))
    (ssx_cons (sx_if (tx_not (tx_val (ex_def (d__law_is E) gd hr (by decide) (by rfl) (ax_cons (ex_var 11 (pv 11)) (ax_cons (ex_tup (ax_cons (ex_op o_mul (ex_tup (ax_cons (ex_tup (ax_cons (ex_c pe_int) (ax_cons (ex_var 5 (pv 5)) (ax_nil)))) (ax_nil))) (ex_var 1 (pv 1))) (ax_cons (ex_var 10 (pv 10)) (ax_nil)))) (ax_nil)))))) (ssx_one (sx_ret (ps_ret (ex_c pe_bl)))) (ssx_nil))
    (ssx_cons (sx_if (tx_cmp o_gt (ex_var 1 (pv 1)) (ex_c pe_int) (nomark _)) (ssx_one (sx_ret (ps_ret (ex_c pe_bl)))) (ssx_nil))
    (ssx_cons (sx_set 12 (ps_set (i := 12) sc__law_boiler.nd rfl (by first | exact .inl rfl | exact .inr rfl) (ex_lst (ax_nil))))
    (ssx_cons (sx_for (ps_for PassesOwn.never rfl (ix_seqI (ex_def (d__law_rows E) gd hr (by decide) (by rfl) (ax_cons (ex_c pe_int) (ax_cons (ex_var 5 (pv 5)) (ax_cons (ex_var 1 (pv 1)) (ax_nil)))))) (gx_name 13 (pg_name (i := 13) sc__law_boiler.nd rfl (by first | exact .inl rfl | exact .inr rfl))) (ssx_cons (sx_par2 14 15 (ps_par (i := 14) (j := 15) rfl sc__law_boiler.nd rfl rfl (by decide) rfl rfl (ax_cons (ex_var 4 (pv 4)) (ax_cons (ex_c pe_bl) (ax_nil))) (by rfl)))
    (ssx_cons (sx_for (ps_for PassesOwn.never rfl (ix_zip (by rfl) E.n_zip (ex_var 13 (pv 13)) (ex_var 7 (pv 7))) (gx_tup rfl (gsx_cons (gx_name 16 (pg_name (i := 16) sc__law_boiler.nd rfl (by first | exact .inl rfl | exact .inr rfl))) (gsx_cons (gx_name 9 (pg_name (i := 9) sc__law_boiler.nd rfl (by first | exact .inl rfl | exact .inr rfl))) (gsx_nil)))) (ssx_cons (sx_set 14 (ps_set (i := 14) sc__law_boiler.nd rfl (by first | exact .inl rfl | exact .inr rfl) (ex_op o_sub (ex_op o_add (ex_var 14 (pv 14)) (ex_var 16 (pv 16))) (ex_var 9 (pv 9)))))
    (ssx_one (sx_set 15 (ps_set (i := 15) sc__law_boiler.nd rfl (by first | exact .inl rfl | exact .inr rfl) (ex_and (ex_var 15 (pv 15)) (ex_one (ex_chain2 o_le o_le (ex_var 2 (pv 2)) (ex_var 14 (pv 14)) (ex_var 3 (pv 3)))))))))))
    (ssx_one (sx_expr (ps_expr (ex_extend (pe_bm PySem.F.plainAttrs_list PySem.F.slot_list_extend PySem.F.type_list_extend mt_extendR (ex_var 12 (pv 12)) (ax_cons (ex_if (tx_val (ex_var 15 (pv 15))) (ex_fz (ex_lst (ax_cons (ex_var 13 (pv 13)) (ax_nil)))) (ex_fz (ex_lst (ax_nil)))) ax_nil))))))))))
    (ssx_one (sx_ret (ps_ret (ex_cmp (o_eq hr.units) (ex_def (d__law_plans E) gd hr (by decide) (by rfl) (ax_cons (ex_var 11 (pv 11)) (ax_nil))) (ex_var 12 (pv 12)) (nomark _))))))))))))))))
  · unfold sem__law_boiler at h
    split at h
    · exact ⟨_, h, fun _ _ q => .inr q, fun _ _ q => .inr q, fun _ _ q => q, fun _ _ q => q⟩
    · exact h.elim
theorem d__law_boiler {P : Program} {w : World} {K : PySem.W.Frag} {mg : Str → Option Value} {base : Heap} (E : Facts K mg) : DefD P w K mg base 6 "_law_boiler" sem__law_boiler := by
  obtain ⟨f, fd, F, hm⟩ := E.f__law_boiler
  exact ⟨f, fd, ["hand", "hours"], fn__law_boiler E F, hm, F.kp, F.binds fun _ _ _ _ _ _ us hl => match us, hl with | [_, _], _ => rfl⟩
theorem fn__law_store {P : Program} {w : World} {K : PySem.W.Frag} {mg : Str → Option Value} {base : Heap} (E : Facts K mg) {f : Addr} {fd : FuncData} (F : Fun K "_law_store" "_law_store" s__law_store f fd) : FnD P w K mg base 6 f fd ["hand", "hours"] sem__law_store := by
  refine fn_body (body := b__law_store) F sc__law_store (fun ds M G h => ?_) (fun cdv A outer s H gd hr => ?_) (fun ds M G h => ?_)
  · unfold sem__law_store at h
    split at h
    · rfl
    · exact h.elim
  · exact (ssx_cons (sx_set 2 (ps_set (i := 2) sc__law_store.nd rfl (by first | exact .inl rfl | exact .inr rfl) (ex_def (d__law_any E) gd hr (by decide) (by rfl) (ax_cons (ex_var 0 (pv 0)) (ax_cons (ex_fz (ex_lst (ax_cons (ex_c pe_int) (ax_cons (ex_c pe_int) (ax_cons (ex_c pe_int) (ax_cons (ex_def (d__law_draw E) gd hr (by decide) (by rfl) (ax_cons (ex_var 0 (pv 0)) (ax_cons (ex_c pe_int) (ax_nil)))) (ax_cons (ex_c pe_int) (ax_nil)))))))) (ax_nil))))))
    (ssx_cons (sx_parN (n := 2) (ps_asg (pe_tup (ax_cons (ex_def (d__law_draw E) gd hr (by decide) (by rfl) (ax_cons (ex_var 0 (pv 0)) (ax_cons (ex_op o_add (ex_var 2 (pv 2)) (ex_c pe_int)) (ax_nil)))) (ax_cons (ex_def (d__law_any E) gd hr (by decide) (by rfl) (ax_cons (ex_var 0 (pv 0)) (ax_cons (ex_fz (ex_lst (ax_cons (ex_c pe_int) (ax_cons (ex_var 2 (pv 2)) (ax_cons (ex_def (d__law_draw E) gd hr (by decide) (by rfl) (ax_cons (ex_var 0 (pv 0)) (ax_cons (ex_op o_add (ex_var 2 (pv 2)) (ex_c pe_int)) (ax_nil)))) (ax_nil)))))) (ax_nil)))) (ax_nil)))) (pg_tup rfl (gsx_cons (gx_name 3 (pg_name (i := 3) sc__law_store.nd rfl (by first | exact .inl rfl | exact .inr rfl))) (gsx_cons (gx_name 4 (pg_name (i := 4) sc__law_store.nd rfl (by first | exact .inl rfl | exact .inr rfl))) (gsx_nil))))) (by intro ρ M P h; simpa [dCons, dNil] using h))
    (ssx_cons (sx_par2 5 6 (ps_par (i := 5) (j := 6) rfl sc__law_store.nd rfl rfl (by decide) rfl rfl (ax_cons (ex_def (d__law_draw E) gd hr (by decide) (by rfl) (ax_cons (ex_var 0 (pv 0)) (ax_cons (ex_if (tx_cmp o_lt (ex_var 1 (pv 1)) (ex_c pe_int) (nomark _)) (ex_c pe_int) (ex_c pe_int)) (ax_nil)))) (ax_cons (ex_def (d__law_draw E) gd hr (by decide) (by rfl) (ax_cons (ex_var 0 (pv 0)) (ax_cons (ex_if (tx_cmp o_lt (ex_var 1 (pv 1)) (ex_c pe_int) (nomark _)) (ex_c pe_int) (ex_c pe_int)) (ax_nil)))) (ax_nil))) (by rfl)))
    (ssx_cons (sx_set 7 (ps_set (i := 7) sc__law_store.nd rfl (by first | exact .inl rfl | exact .inr rfl) (ex_tup (ax_cons (ex_tup (ax_cons (ex_op o_sub (ex_var 4 (pv 4)) (ex_var 3 (pv 3))) (ax_cons (ex_op o_sub (ex_var 2 (pv 2)) (ex_var 3 (pv 3))) (ax_nil)))) (ax_nil)))))
    (ssx_cons (sx_set 8 (ps_set (i := 8) sc__law_store.nd rfl (by first | exact .inl rfl | exact .inr rfl) (ex_op o_add (ex_op o_mul (ex_tup (ax_cons (ex_tup (ax_cons (ex_op o_sub (ex_c pe_int) (ex_var 3 (pv 3))) (ax_cons (ex_op o_sub (ex_var 2 (pv 2)) (ex_var 3 (pv 3))) (ax_nil)))) (ax_nil))) (ex_op o_sub (ex_var 1 (pv 1)) (ex_c pe_int))) (ex_var 7 (pv 7)))))
    (ssx_cons (sx_set 9 (ps_set (i := 9) sc__law_store.nd rfl (by first | exact .inl rfl | exact .inr rfl) (ex_def (d_store_thing E) gd hr (by decide) (by rfl) (ax_cons (ex_var 1 (pv 1)) (ax_cons (ex_var 3 (pv 3)) (ax_cons (ex_var 2 (pv 2)) (ax_cons (ex_var 5 (pv 5)) (ax_cons (ex_var 6 (pv 6)) (ax_cons (ex_var 4 (pv 4)) (ax_nil))))))))))
    (ssx_cons (sx_if (tx_not (tx_val (ex_def (d__law_is E) gd hr (by decide) (by rfl) (ax_cons (ex_var 9 (pv 9)) (ax_cons (ex_tup (ax_cons (ex_op o_mul (ex_tup (ax_cons (ex_tup (ax_cons (ex_op o_sub (ex_c pe_int) (ex_var 6 (pv 6))) (ax_cons (ex_var 5 (pv 5)) (ax_nil)))) (ax_nil))) (ex_var 1 (pv 1))) (ax_cons (ex_var 8 (pv 8)) (ax_nil)))) (ax_nil)))))) (ssx_one (sx_ret (ps_ret (ex_c pe_bl)))) (ssx_nil))
    (ssx_cons (sx_if (tx_cmp o_gt (ex_var 1 (pv 1)) (ex_c pe_int) (nomark _)) (ssx_one (sx_ret (ps_ret (ex_c pe_bl)))) (ssx_nil))
    (ssx_cons (sx_set 10 (ps_set (i := 10) sc__law_store.nd rfl (by first | exact .inl rfl | exact .inr rfl) (ex_lst (ax_nil))))
    (ssx_cons (sx_for (ps_for PassesOwn.never rfl (ix_seqI (ex_def (d__law_rows E) gd hr (by decide) (by rfl) (ax_cons (ex_op o_sub (ex_c pe_int) (ex_var 6 (pv 6))) (ax_cons (ex_var 5 (pv 5)) (ax_cons (ex_var 1 (pv 1)) (ax_nil)))))) (gx_name 11 (pg_name (i := 11) sc__law_store.nd rfl (by first | exact .inl rfl | exact .inr rfl))) (ssx_cons (sx_lcFz (ps_setLc (i := 13) (own := [("hour", 12)]) rfl sc__law_store.nd rfl rfl (sw_true rfl rfl rfl (by decide +kernel)) (ix_range1 (by rfl) E.n_range (ex_var 1 (pv 1))) (blkOk_by (own := [("hour", 12)]) (N := n__law_store) (sc := defScope s__law_store) (by decide +kernel)) (fun _ _ _ _ _ => gx_name 12 (pg_name (i := 12) sc__law_store.nd rfl (by first | exact .inl rfl | exact .inr rfl))) (fun _ _ _ _ _ => tsx_nil) (fun _ _ _ _ _ => ex_op o_add (ex_var 3 (pv 3)) (ex_b1 (b_sum rfl) (by rfl) E.n_sum (by decide +kernel) (ex_fz (ex_slice (ex_var 11 (pv 11)) px_none (px_some (ex_op o_add (ex_var 12 (pv 12)) (ex_c pe_int)))))))) (by decide))
    (ssx_one (sx_if (PW.pt (wx_and (tx_val (ex_b1 (b_all rfl) (by rfl) E.n_all (by decide +kernel) (ex_fz (ex_lc (pe_lc (own := [("content", 14)]) rfl sc__law_store.nd (ix_seqI (ex_var 13 (pv 13))) (blkOk_by (own := [("content", 14)]) (N := n__law_store) (sc := defScope s__law_store) (by decide +kernel)) (fun _ _ _ _ _ => gx_name 14 (pg_name (i := 14) sc__law_store.nd rfl (by first | exact .inl rfl | exact .inr rfl))) (fun _ _ _ _ _ => tsx_nil) (fun _ _ _ _ _ => ex_chain2 o_le o_le (ex_c pe_int) (ex_var 14 (pv 14)) (ex_var 2 (pv 2)))) (by decide))))) (wx_and1 (tx_cmp o_ge (ex_ix i_at (ex_var 13 (pv 13)) (ex_neg (ex_c pe_int)) (fun _ _ => rfl)) (ex_var 4 (pv 4)) (nomark _))))) (ssx_one (sx_expr (ps_expr (ex_append (pe_bm PySem.F.plainAttrs_list PySem.F.slot_list_append PySem.F.type_list_append mt_append (ex_var 10 (pv 10)) (ax_cons (ex_var 11 (pv 11)) ax_nil)))))) (ssx_nil))))))
    (ssx_one (sx_ret (ps_ret (ex_cmp (o_eq hr.units) (ex_def (d__law_plans E) gd hr (by decide) (by rfl) (ax_cons (ex_var 9 (pv 9)) (ax_nil))) (ex_var 10 (pv 10)) (nomark _)))))))))))))))
  · unfold sem__law_store at h
    split at h
    · exact ⟨_, h, fun _ _ q => .inr q, fun _ _ q => .inr q, fun _ _ q => q, fun _ _ q => q⟩
    · exact h.elim
theorem d__law_store {P : Program} {w : World} {K : PySem.W.Frag} {mg : Str → Option Value} {base : Heap} (E : Facts K mg) : DefD P w K mg base 6 "_law_store" sem__law_store := by
  obtain ⟨f, fd, F, hm⟩ := E.f__law_store
  exact ⟨f, fd, ["hand", "hours"], fn__law_store E F, hm, F.kp, F.binds fun _ _ _ _ _ _ us hl => match us, hl with | [_, _], _ => rfl⟩
theorem fn__law_run {P : Program} {w : World} {K : PySem.W.Frag} {mg : Str → Option Value} {base : Heap} (E : Facts K mg) {f : Addr} {fd : FuncData} (F : Fun K "_law_run" "_law_run" s__law_run f fd) : FnD P w K mg base 6 f fd ["hand", "hours"] sem__law_run := by
  refine fn_body (body := b__law_run) F sc__law_run (fun ds M G h => ?_) (fun cdv A outer s H gd hr => ?_) (fun ds M G h => ?_)
  · unfold sem__law_run at h
    split at h
    · rfl
    · exact h.elim
  · exact (ssx_cons (sx_set 2 (ps_set (i := 2) sc__law_run.nd rfl (by first | exact .inl rfl | exact .inr rfl) (ex_def (d__law_draw E) gd hr (by decide) (by rfl) (ax_cons (ex_var 0 (pv 0)) (ax_cons (ex_var 1 (pv 1)) (ax_nil))))))
    (ssx_cons (sx_set 3 (ps_set (i := 3) sc__law_run.nd rfl (by first | exact .inl rfl | exact .inr rfl) (ex_op o_add (ex_var 2 (pv 2)) (ex_def (d__law_draw E) gd hr (by decide) (by rfl) (ax_cons (ex_var 0 (pv 0)) (ax_cons (ex_op o_sub (ex_var 1 (pv 1)) (ex_var 2 (pv 2))) (ax_nil)))))))
    (ssx_cons (sx_parN (n := 2) (ps_asg (pe_tup (ax_cons (ex_def (d__law_draw E) gd hr (by decide) (by rfl) (ax_cons (ex_var 0 (pv 0)) (ax_cons (ex_c pe_int) (ax_nil)))) (ax_cons (ex_def (d__law_any E) gd hr (by decide) (by rfl) (ax_cons (ex_var 0 (pv 0)) (ax_cons (ex_fz (ex_lst (ax_cons (ex_c pe_int) (ax_cons (ex_c pe_int) (ax_cons (ex_def (d__law_draw E) gd hr (by decide) (by rfl) (ax_cons (ex_var 0 (pv 0)) (ax_cons (ex_c pe_int) (ax_nil)))) (ax_cons (ex_def (d__law_draw E) gd hr (by decide) (by rfl) (ax_cons (ex_var 0 (pv 0)) (ax_cons (ex_c pe_int) (ax_nil)))) (ax_nil))))))) (ax_nil)))) (ax_nil)))) (pg_tup rfl (gsx_cons (gx_name 4 (pg_name (i := 4) sc__law_run.nd rfl (by first | exact .inl rfl | exact .inr rfl))) (gsx_cons (gx_name 5 (pg_name (i := 5) sc__law_run.nd rfl (by first | exact .inl rfl | exact .inr rfl))) (gsx_nil))))) (by intro ρ M P h; simpa [dCons, dNil] using h))
    (ssx_cons (sx_set 7 (ps_set (i := 7) sc__law_run.nd rfl (by first | exact .inl rfl | exact .inr rfl) (ex_t1 b_tuple (by rfl) E.n_tuple (by decide +kernel) (ex_fz (ex_lc (pe_lc (own := [("hour", 6)]) rfl sc__law_run.nd (ix_range1 (by rfl) E.n_range (ex_var 1 (pv 1))) (blkOk_by (own := [("hour", 6)]) (N := n__law_run) (sc := defScope s__law_run) (by decide +kernel)) (fun _ _ _ _ _ => gx_name 6 (pg_name (i := 6) sc__law_run.nd rfl (by first | exact .inl rfl | exact .inr rfl))) (fun _ _ _ _ _ => tsx_nil) (fun _ _ _ _ _ => ex_if (tx_chain o_le o_le (ex_var 2 (pv 2)) (ex_var 6 (pv 6)) (ex_var 3 (pv 3))) (ex_tup (ax_cons (ex_c pe_int) (ax_cons (ex_var 4 (pv 4)) (ax_nil)))) (ex_tup (ax_cons (ex_c pe_int) (ax_cons (ex_c pe_int) (ax_nil)))))) (by decide))))))
    (ssx_cons (sx_set 8 (ps_set (i := 8) sc__law_run.nd rfl (by first | exact .inl rfl | exact .inr rfl) (ex_t1 b_tuple (by rfl) E.n_tuple (by decide +kernel) (ex_fz (ex_lc (pe_lc (own := [("hour", 6)]) rfl sc__law_run.nd (ix_range1 (by rfl) E.n_range (ex_var 1 (pv 1))) (blkOk_by (own := [("hour", 6)]) (N := n__law_run) (sc := defScope s__law_run) (by decide +kernel)) (fun _ _ _ _ _ => gx_name 6 (pg_name (i := 6) sc__law_run.nd rfl (by first | exact .inl rfl | exact .inr rfl))) (fun _ _ _ _ _ => tsx_nil) (fun _ _ _ _ _ => ex_tup (ax_cons (ex_if (tx_cmp o_ge (ex_var 6 (pv 6)) (ex_var 3 (pv 3)) (nomark _)) (ex_var 5 (pv 5)) (ex_c pe_int)) (ax_cons (ex_var 5 (pv 5)) (ax_nil))))) (by decide))))))
    (ssx_cons (sx_set 9 (ps_set (i := 9) sc__law_run.nd rfl (by first | exact .inl rfl | exact .inr rfl) (ex_def (d_run_thing E) gd hr (by decide) (by rfl) (ax_cons (ex_var 1 (pv 1)) (ax_cons (ex_var 2 (pv 2)) (ax_cons (ex_var 3 (pv 3)) (ax_cons (ex_var 5 (pv 5)) (ax_cons (ex_var 4 (pv 4)) (ax_nil)))))))))
    (ssx_cons (sx_if (tx_not (tx_val (ex_def (d__law_is E) gd hr (by decide) (by rfl) (ax_cons (ex_var 9 (pv 9)) (ax_cons (ex_tup (ax_cons (ex_var 7 (pv 7)) (ax_cons (ex_var 8 (pv 8)) (ax_nil)))) (ax_nil)))))) (ssx_one (sx_ret (ps_ret (ex_c pe_bl)))) (ssx_nil))
    (ssx_cons (sx_if (tx_cmp o_gt (ex_var 1 (pv 1)) (ex_c pe_int) (nomark _)) (ssx_one (sx_ret (ps_ret (ex_c pe_bl)))) (ssx_nil))
    (ssx_cons (sx_set 10 (ps_set (i := 10) sc__law_run.nd rfl (by first | exact .inl rfl | exact .inr rfl) (ex_lst (ax_nil))))
    (ssx_cons (sx_for (ps_for PassesOwn.never rfl (ix_seqI (ex_def (d__law_rows E) gd hr (by decide) (by rfl) (ax_cons (ex_c pe_int) (ax_cons (ex_var 4 (pv 4)) (ax_cons (ex_var 1 (pv 1)) (ax_nil)))))) (gx_name 11 (pg_name (i := 11) sc__law_run.nd rfl (by first | exact .inl rfl | exact .inr rfl))) (ssx_cons (sx_lcFz (ps_setLc (i := 13) (own := [("hour", 6), ("one", 12)]) rfl sc__law_run.nd rfl rfl (sw_true rfl rfl rfl (by decide +kernel)) (ix_enum (by rfl) E.n_enumerate (ex_var 11 (pv 11))) (blkOk_by (own := [("hour", 6), ("one", 12)]) (N := n__law_run) (sc := defScope s__law_run) (by decide +kernel)) (fun _ _ _ _ _ => gx_tup rfl (gsx_cons (gx_name 6 (pg_name (i := 6) sc__law_run.nd rfl (by first | exact .inl rfl | exact .inr rfl))) (gsx_cons (gx_name 12 (pg_name (i := 12) sc__law_run.nd rfl (by first | exact .inl rfl | exact .inr rfl))) (gsx_nil)))) (fun _ _ _ _ _ => tsx_one (tx_not (tx_chain o_le o_le (ex_var 2 (pv 2)) (ex_var 6 (pv 6)) (ex_var 3 (pv 3))))) (fun _ _ _ _ _ => ex_var 12 (pv 12))) (by decide))
    (ssx_one (sx_expr (ps_expr (ex_extend (pe_bm PySem.F.plainAttrs_list PySem.F.slot_list_extend PySem.F.type_list_extend mt_extendR (ex_var 10 (pv 10)) (ax_cons (ex_if (PW.pt (wx_and (tx_cmp (o_eq hr.units) (ex_b1 (b_sum rfl) (by rfl) E.n_sum (by decide +kernel) (ex_var 13 (pv 13))) (ex_c pe_int) (nomark _)) (wx_and1 (tx_cmp (o_eq hr.units) (ex_b1 (b_sum rfl) (by rfl) E.n_sum (by decide +kernel) (ex_var 11 (pv 11))) (ex_var 5 (pv 5)) (nomark _))))) (ex_fz (ex_lst (ax_cons (ex_var 11 (pv 11)) (ax_nil)))) (ex_fz (ex_lst (ax_nil)))) ax_nil)))))))))
    (ssx_one (sx_ret (ps_ret (ex_cmp (o_eq hr.units) (ex_def (d__law_plans E) gd hr (by decide) (by rfl) (ax_cons (ex_var 9 (pv 9)) (ax_nil))) (ex_var 10 (pv 10)) (nomark _)))))))))))))))
  · unfold sem__law_run at h
    split at h
    · exact ⟨_, h, fun _ _ q => .inr q, fun _ _ q => .inr q, fun _ _ q => q, fun _ _ q => q⟩
    · exact h.elim
theorem d__law_run {P : Program} {w : World} {K : PySem.W.Frag} {mg : Str → Option Value} {base : Heap} (E : Facts K mg) : DefD P w K mg base 6 "_law_run" sem__law_run := by
  obtain ⟨f, fd, F, hm⟩ := E.f__law_run
  exact ⟨f, fd, ["hand", "hours"], fn__law_run E F, hm, F.kp, F.binds fun _ _ _ _ _ _ us hl => match us, hl with | [_, _], _ => rfl⟩
theorem fn__law_plain {P : Program} {w : World} {K : PySem.W.Frag} {mg : Str → Option Value} {base : Heap} (E : Facts K mg) {f : Addr} {fd : FuncData} (F : Fun K "_law_plain" "_law_plain" s__law_plain f fd) : FnD P w K mg base 6 f fd ["hand", "hours"] sem__law_plain := by
  refine fn_body (body := b__law_plain) F sc__law_plain (fun ds M G h => ?_) (fun cdv A outer s H gd hr => ?_) (fun ds M G h => ?_)
  · unfold sem__law_plain at h
    split at h
    · rfl
    · exact h.elim
  · exact (ssx_cons (sx_set 3 (ps_set (i := 3) sc__law_plain.nd rfl (by first | exact .inl rfl | exact .inr rfl) (ex_t1 b_tuple (by rfl) E.n_tuple (by decide +kernel) (ex_fz (ex_lc (pe_lc (own := [("hour", 2)]) rfl sc__law_plain.nd (ix_range1 (by rfl) E.n_range (ex_var 1 (pv 1))) (blkOk_by (own := [("hour", 2)]) (N := n__law_plain) (sc := defScope s__law_plain) (by decide +kernel)) (fun _ _ _ _ _ => gx_name 2 (pg_name (i := 2) sc__law_plain.nd rfl (by first | exact .inl rfl | exact .inr rfl))) (fun _ _ _ _ _ => tsx_nil) (fun _ _ _ _ _ => ex_op o_sub (ex_def (d__law_draw E) gd hr (by decide) (by rfl) (ax_cons (ex_var 0 (pv 0)) (ax_cons (ex_c pe_int) (ax_nil)))) (ex_c pe_int))) (by decide))))))
    (ssx_cons (sx_lcFz (ps_setLc (i := 4) (own := [("hour", 2)]) rfl sc__law_plain.nd rfl rfl (sw_true rfl rfl rfl (by decide +kernel)) (ix_range1 (by rfl) E.n_range (ex_var 1 (pv 1))) (blkOk_by (own := [("hour", 2)]) (N := n__law_plain) (sc := defScope s__law_plain) (by decide +kernel)) (fun _ _ _ _ _ => gx_name 2 (pg_name (i := 2) sc__law_plain.nd rfl (by first | exact .inl rfl | exact .inr rfl))) (fun _ _ _ _ _ => tsx_nil) (fun _ _ _ _ _ => ex_b1 (b_sum rfl) (by rfl) E.n_sum (by decide +kernel) (ex_fz (ex_slice (ex_var 3 (pv 3)) px_none (px_some (ex_op o_add (ex_var 2 (pv 2)) (ex_c pe_int))))))) (by decide))
    (ssx_cons (sx_set 6 (ps_set (i := 6) sc__law_plain.nd rfl (by first | exact .inl rfl | exact .inr rfl) (ex_tup (ax_cons (ex_t1 b_tuple (by rfl) E.n_tuple (by decide +kernel) (ex_fz (ex_lc (pe_lc (own := [("one", 5)]) rfl sc__law_plain.nd (ix_seqI (ex_var 3 (pv 3))) (blkOk_by (own := [("one", 5)]) (N := n__law_plain) (sc := defScope s__law_plain) (by decide +kernel)) (fun _ _ _ _ _ => gx_name 5 (pg_name (i := 5) sc__law_plain.nd rfl (by first | exact .inl rfl | exact .inr rfl))) (fun _ _ _ _ _ => tsx_nil) (fun _ _ _ _ _ => ex_tup (ax_cons (ex_var 5 (pv 5)) (ax_cons (ex_var 5 (pv 5)) (ax_nil))))) (by decide)))) (ax_cons (ex_t1 b_tuple (by rfl) E.n_tuple (by decide +kernel) (ex_fz (ex_lc (pe_lc (own := [("one", 5)]) rfl sc__law_plain.nd (ix_seqI (ex_var 4 (pv 4))) (blkOk_by (own := [("one", 5)]) (N := n__law_plain) (sc := defScope s__law_plain) (by decide +kernel)) (fun _ _ _ _ _ => gx_name 5 (pg_name (i := 5) sc__law_plain.nd rfl (by first | exact .inl rfl | exact .inr rfl))) (fun _ _ _ _ _ => tsx_nil) (fun _ _ _ _ _ => ex_tup (ax_cons (ex_var 5 (pv 5)) (ax_cons (ex_var 5 (pv 5)) (ax_nil))))) (by decide)))) (ax_nil))))))
    (ssx_one (sx_ret (ps_ret (ex_and (ex_def (d__law_is E) gd hr (by decide) (by rfl) (ax_cons (ex_def (d_plain_thing E) gd hr (by decide) (by rfl) (ax_cons (ex_var 1 (pv 1)) (ax_cons (ex_var 3 (pv 3)) (ax_nil)))) (ax_cons (ex_var 6 (pv 6)) (ax_nil)))) (ex_one (ex_cmp (o_eq hr.units) (ex_def (d__law_plans E) gd hr (by decide) (by rfl) (ax_cons (ex_var 6 (pv 6)) (ax_nil))) (ex_fz (ex_lst (ax_cons (ex_var 3 (pv 3)) (ax_nil)))) (nomark _))))))))))
  · unfold sem__law_plain at h
    split at h
    · exact ⟨_, h, fun _ _ q => .inr q, fun _ _ q => .inr q, fun _ _ q => q, fun _ _ q => q⟩
    · exact h.elim
theorem d__law_plain {P : Program} {w : World} {K : PySem.W.Frag} {mg : Str → Option Value} {base : Heap} (E : Facts K mg) : DefD P w K mg base 6 "_law_plain" sem__law_plain := by
  obtain ⟨f, fd, F, hm⟩ := E.f__law_plain
  exact ⟨f, fd, ["hand", "hours"], fn__law_plain E F, hm, F.kp, F.binds fun _ _ _ _ _ _ us hl => match us, hl with | [_, _], _ => rfl⟩
theorem fn_law {P : Program} {w : World} {K : PySem.W.Frag} {mg : Str → Option Value} {base : Heap} (E : Facts K mg) {f : Addr} {fd : FuncData} (F : Fun K "law" "law" s_law f fd) : FnD P w K mg base 7 f fd ["script"] sem_law := by
  refine fn_body (body := b_law) F sc_law (fun ds M G h => ?_) (fun cdv A outer s H gd hr => ?_) (fun ds M G h => ?_)
  · unfold sem_law at h
    split at h
    · rfl
    · exact h.elim
  · exact (ssx_cons (sx_set 1 (ps_set (i := 1) sc_law.nd rfl (by first | exact .inl rfl | exact .inr rfl) (ex_def (d__law_hand E) gd hr (by decide) (by rfl) (ax_cons (ex_var 0 (pv 0)) (ax_nil)))))
    (ssx_cons (sx_if (tx_cmp (o_ne hr.units) (ex_def (d_car_thing E) gd hr (by decide) (by rfl) (ax_cons (ex_c pe_int) (ax_cons (ex_c pe_int) (ax_cons (ex_c pe_int) (ax_cons (ex_c pe_int) (ax_cons (ex_c pe_int) (ax_cons (ex_c pe_int) (ax_nil)))))))) (ex_tup (ax_cons (ex_tup (ax_cons (ex_tup (ax_cons (ex_c pe_int) (ax_cons (ex_c pe_int) (ax_nil)))) (ax_cons (ex_tup (ax_cons (ex_c pe_int) (ax_cons (ex_c pe_int) (ax_nil)))) (ax_nil)))) (ax_cons (ex_tup (ax_cons (ex_tup (ax_cons (ex_c pe_int) (ax_cons (ex_c pe_int) (ax_nil)))) (ax_cons (ex_tup (ax_cons (ex_c pe_int) (ax_cons (ex_c pe_int) (ax_nil)))) (ax_nil)))) (ax_nil)))) (nomark _)) (ssx_one (sx_ret (ps_ret (ex_c pe_bl)))) (ssx_nil))
    (ssx_cons (sx_if (tx_cmp (o_ne hr.units) (ex_def (d_store_thing E) gd hr (by decide) (by rfl) (ax_cons (ex_c pe_int) (ax_cons (ex_c pe_int) (ax_cons (ex_c pe_int) (ax_cons (ex_c pe_int) (ax_cons (ex_c pe_int) (ax_cons (ex_c pe_int) (ax_nil)))))))) (ex_tup (ax_cons (ex_tup (ax_cons (ex_tup (ax_cons (ex_neg (ex_c pe_int)) (ax_cons (ex_c pe_int) (ax_nil)))) (ax_nil))) (ax_cons (ex_tup (ax_cons (ex_tup (ax_cons (ex_c pe_int) (ax_cons (ex_c pe_int) (ax_nil)))) (ax_nil))) (ax_nil)))) (nomark _)) (ssx_one (sx_ret (ps_ret (ex_c pe_bl)))) (ssx_nil))
    (ssx_cons (sx_for (ps_for PassesOwn.never rfl (ix_range1 (by rfl) E.n_range (ex_c pe_int)) (gx_name 2 (pg_name (i := 2) sc_law.nd rfl (by first | exact .inl rfl | exact .inr rfl))) (ssx_cons (sx_set 3 (ps_set (i := 3) sc_law.nd rfl (by first | exact .inl rfl | exact .inr rfl) (ex_def (d__law_any E) gd hr (by decide) (by rfl) (ax_cons (ex_var 1 (pv 1)) (ax_cons (ex_fz (ex_lst (ax_cons (ex_c pe_int) (ax_cons (ex_c pe_int) (ax_cons (ex_c pe_int) (ax_cons (ex_c pe_int) (ax_cons (ex_c pe_int) (ax_cons (ex_c pe_int) (ax_nil))))))))) (ax_nil))))))
    (ssx_cons (sx_if (PW.pt (wx_or (tx_not (tx_val (ex_def (d__law_car E) gd hr (by decide) (by rfl) (ax_cons (ex_var 1 (pv 1)) (ax_cons (ex_var 3 (pv 3)) (ax_nil)))))) (wx_or (tx_not (tx_val (ex_def (d__law_boiler E) gd hr (by decide) (by rfl) (ax_cons (ex_var 1 (pv 1)) (ax_cons (ex_var 3 (pv 3)) (ax_nil)))))) (wx_or1 (tx_not (tx_val (ex_def (d__law_store E) gd hr (by decide) (by rfl) (ax_cons (ex_var 1 (pv 1)) (ax_cons (ex_var 3 (pv 3)) (ax_nil)))))))))) (ssx_one (sx_ret (ps_ret (ex_c pe_bl)))) (ssx_nil))
    (ssx_one (sx_if (PW.pt (wx_or (tx_not (tx_val (ex_def (d__law_run E) gd hr (by decide) (by rfl) (ax_cons (ex_var 1 (pv 1)) (ax_cons (ex_var 3 (pv 3)) (ax_nil)))))) (wx_or1 (tx_not (tx_val (ex_def (d__law_plain E) gd hr (by decide) (by rfl) (ax_cons (ex_var 1 (pv 1)) (ax_cons (ex_var 3 (pv 3)) (ax_nil))))))))) (ssx_one (sx_ret (ps_ret (ex_c pe_bl)))) (ssx_nil)))))))
    (ssx_one (sx_ret (ps_ret (ex_c pe_bl))))))))
  · unfold sem_law at h
    split at h
    · exact ⟨_, h, fun _ _ q => .inr q, fun _ _ q => .inr q, fun _ _ q => q, fun _ _ q => q⟩
    · exact h.elim
theorem d_law {P : Program} {w : World} {K : PySem.W.Frag} {mg : Str → Option Value} {base : Heap} (E : Facts K mg) : DefD P w K mg base 7 "law" sem_law := by
  obtain ⟨f, fd, F, hm⟩ := E.f_law
  exact ⟨f, fd, ["script"], fn_law E F, hm, F.kp, F.binds fun _ _ _ _ _ _ us hl => match us, hl with | [_], _ => rfl⟩
end LK10
local macro_rules | `(tactic| walk_at "rd") => `(tactic| first | assumption | exact DL.mset_eq _ _ _ | (rw [DL.mset_ne (by assumption)]; assumption))
local macro_rules | `(tactic| walk_at "rf") => `(tactic| with_unfolding_all exact rfl)
local macro_rules | `(tactic| walk_at "sq") => `(tactic| first | exact rfl | exact DL.sq_ref (by walk_at "rd"))
local macro_rules | `(tactic| walk_at "n") => `(tactic| first | with_reducible assumption | omega | decide)
local macro_rules | `(tactic| walk_at "cm") => `(tactic| first | exact .inr ⟨by decide, by decide⟩ | exact .inl ⟨by decide, by decide⟩ | exact .inl ⟨by omega, by omega⟩ | exact .inr ⟨by omega, by omega⟩)
local macro_rules | `(tactic| walk_at "kb") => `(tactic| first | exact DL.k_ii | exact DL.k_ib | exact DL.k_is' | exact DL.k_it | exact DL.k_bi | exact DL.k_bb | exact DL.k_bs | exact DL.k_bt | exact DL.k_si | exact DL.k_sb | exact DL.k_ss | exact DL.k_st | exact DL.k_ti | exact DL.k_tb | exact DL.k_ts | exact DL.k_tt | exact DL.k_li | exact DL.k_lb | exact DL.k_ls | exact DL.k_lt | exact DL.k_ni | exact DL.k_nb | exact DL.k_ns | exact DL.k_nt)
local macro_rules | `(tactic| walk_at "d1") => `(tactic| first
  | (with_reducible apply DL.i_var); walk_at "rf"
  | (with_reducible refine DL.i_c ?_)
  | (with_reducible refine DL.i_op ?_)
  | (with_reducible refine DL.i_cons ?_)
  | (with_reducible refine DL.i_nil ?_)
  | (with_reducible refine DL.i_cb ?_)
  | (with_reducible refine DL.i_test ?_)
  | (with_reducible refine DL.i_bK ?_)
  | (with_reducible refine DL.i_seq ?_)
  | (with_reducible refine DL.i_next ?_)
  | (with_reducible refine DL.i_set ?_)
  | (with_reducible refine DL.i_ret ?_)
  | (with_reducible refine DL.i_expr ?_)
  | (with_reducible refine DL.i_ifS ?_)
  | (with_reducible refine DL.i_store ?_)
  | (with_reducible refine DL.i_for ?_)
  | (with_reducible refine DL.i_asg ?_)
  | (with_reducible refine DL.i_par2 ?_)
  | (with_reducible refine DL.i_par3 ?_)
  | (with_reducible refine DL.i_p2K ?_)
  | (with_reducible refine DL.i_p3K ?_)
  | (with_reducible refine DL.i_brk ?_)
  | (with_reducible refine DL.i_cont ?_)
  | (with_reducible refine DL.i_retN ?_)
  | (with_reducible refine DL.i_parN ?_)
  | (with_reducible apply DL.i_atT); walk_at "rf"
  | (with_reducible apply DL.i_atR); walk_at "rd"; walk_at "rf"
  | (with_reducible apply DL.i_atL); walk_at "rf"
  | (with_reducible apply DL.i_atT); (exact DL.at_app (by assumption))
  | (with_reducible refine DL.i_addI ?_)
  | (with_reducible refine DL.i_subI ?_)
  | (with_reducible refine DL.i_ltI ?_)
  | (with_reducible refine DL.i_leI ?_)
  | (with_reducible refine DL.i_gtI ?_)
  | (with_reducible refine DL.i_geI ?_)
  | (with_reducible refine DL.i_eqI ?_)
  | (with_reducible refine DL.i_neI ?_)
  | (with_reducible refine DL.i_isN ?_)
  | (with_reducible refine DL.i_notN ?_)
  | (with_reducible apply DL.i_mulI); walk_at "cm"
  | (with_reducible refine DL.i_eqS ?_)
  | (with_reducible refine DL.i_neS ?_)
  | (with_reducible apply DL.i_modI); walk_at "n"
  | (with_reducible apply DL.i_divI); (refine ⟨?_, ?_⟩ <;> walk_at "n")
  | (with_reducible apply DL.i_powI); (refine ⟨?_, ?_, ?_⟩ <;> decide)
  | (with_reducible apply DL.i_andP); (intro PB hP; walk_at "d"; exact hP); (intro _ PB hP; walk_at "d"; exact hP)
  | (with_reducible apply DL.i_orP); (intro PB hP; walk_at "d"; exact hP); (intro _ PB hP; walk_at "d"; exact hP)
  | (with_reducible apply DL.i_andVP); (intro PB hP; walk_at "d"; exact hP); (intro _ PB hP; walk_at "d"; exact hP)
  | (with_reducible apply DL.i_orVP); (intro PB hP; walk_at "d"; exact hP); (intro _ PB hP; walk_at "d"; exact hP)
  | (with_reducible apply DL.i_chainP); (intro PB hP; walk_at "d"; exact hP); (intro PB hP; walk_at "d"; exact hP); (intro PB hP; walk_at "d"; exact hP); (intro _ PB hP; walk_at "d"; exact hP)
  | (with_reducible refine DL.i_chain ?_)
  | (with_reducible refine DL.i_and ?_)
  | (with_reducible refine DL.i_or ?_)
  | (with_reducible refine DL.i_not ?_)
  | (with_reducible refine DL.i_andV ?_)
  | (with_reducible refine DL.i_orV ?_)
  | (with_reducible refine DL.i_notV ?_)
  | (with_reducible refine DL.i_if ?_)
  | (with_reducible refine DL.i_tup ?_)
  | (with_reducible apply DL.i_tuK); (refine Nat.le_of_ble_eq_true ?_; walk_at "rf")
  | (with_reducible refine DL.i_lst ?_)
  | (with_reducible apply DL.i_liF); (refine Nat.le_of_ble_eq_true ?_; walk_at "rf")
  | (with_reducible apply DL.i_liK); (refine Nat.le_of_ble_eq_true ?_; walk_at "rf")
  | (with_reducible refine DL.i_fz ?_)
  | (with_reducible refine DL.i_fzT ?_)
  | (with_reducible refine DL.i_fzI ?_)
  | (with_reducible refine DL.i_fzL ?_)
  | (with_reducible refine DL.i_fzB ?_)
  | (with_reducible refine DL.i_fzN ?_)
  | (with_reducible refine DL.i_pure ?_)
  | (with_reducible refine DL.i_lenT ?_)
  | (with_reducible refine DL.i_lenL ?_)
  | (with_reducible refine DL.i_abs ?_)
  | (with_reducible refine DL.i_toI ?_)
  | (with_reducible refine DL.i_toIB ?_)
  | (with_reducible refine DL.i_max2 ?_)
  | (with_reducible refine DL.i_min2 ?_)
  | (with_reducible refine DL.i_toTT ?_)
  | (with_reducible refine DL.i_toTL ?_)
  | (with_reducible refine DL.i_toLT ?_)
  | (with_reducible refine DL.i_toLL ?_)
  | (with_reducible apply DL.i_fzR); walk_at "rd"
  | (with_reducible apply DL.i_lenR); walk_at "rd"
  | (with_reducible apply DL.i_toTR); walk_at "rd"
  | (with_reducible apply DL.i_toLR); walk_at "rd"
  | (with_reducible refine DL.i_gname ?_)
  | (with_reducible apply DL.i_gtup); walk_at "rf"
  | (with_reducible refine DL.i_gcons ?_)
  | (with_reducible refine DL.i_gnil ?_)
  | (with_reducible refine DL.i_seqIT ?_)
  | (with_reducible refine DL.i_seqIL ?_)
  | (with_reducible apply DL.i_seqIR); walk_at "rd"
  | (with_reducible refine DL.i_seqT ?_)
  | (with_reducible refine DL.i_enum ?_)
  | (with_reducible refine DL.i_zip ?_)
  | (with_reducible apply DL.i_rg1C); walk_at "n"; walk_at "n"
  | (with_reducible refine DL.i_rg1 ?_)
  | (with_reducible apply DL.i_rg2C); walk_at "n"
  | (with_reducible refine DL.i_rg2 ?_)
  | (with_reducible refine DL.i_lc ?_)
  | (with_reducible refine DL.i_yes ?_)
  | (with_reducible refine DL.c_t ?_)
  | (with_reducible refine DL.c_f ?_)
  | (with_reducible refine DL.i_negC ?_)
  | (with_reducible refine DL.i_neg ?_)
  | (with_reducible apply DL.i_appR); walk_at "rd"
  | (with_reducible refine DL.i_append ?_)
  | (with_reducible apply DL.i_apK); walk_at "rd"; walk_at "n"
  | (with_reducible apply DL.i_stK); walk_at "rd"; walk_at "rf"
  | (with_reducible refine DL.i_sl ?_)
  | (with_reducible refine DL.i_noPart ?_)
  | (with_reducible refine DL.i_part ?_)
  | (with_reducible refine DL.i_paK ?_)
  | (with_reducible refine DL.i_cutT ?_)
  | (with_reducible refine DL.i_cutLF ?_)
  | (with_reducible refine DL.i_cutSF ?_)
  | (with_reducible apply DL.i_cutRF); walk_at "rd"
  | (with_reducible apply DL.i_extR); walk_at "rd"
  | (with_reducible refine DL.i_extend ?_)
  | (with_reducible apply DL.i_pnK); (refine Nat.le_of_ble_eq_true ?_; walk_at "rf")
  | (with_reducible apply DL.i_sumL); (exact rfl)
  | (with_reducible apply DL.i_sumT); (exact rfl)
  | (with_reducible apply DL.i_enX); walk_at "sq"
  | (with_reducible apply DL.i_zipX); walk_at "sq"; walk_at "sq"
  | (with_reducible apply DL.i_isiX); walk_at "rf"; walk_at "kb"
  | (with_reducible refine DL.i_isi ?_))
local macro_rules | `(tactic| walk_at "d") => `(tactic| repeat walk_at "d1")
namespace LK10
open PySem L2 DL
/-- what the hand is worth: five things, the cells ahead of the next one's place -/
def HandV (o : MO) : Prop := ∃ (cells : List Int) (i left mix cnt : Int), o = .lst [.lst (cells.map .int), .int i, .int left, .int mix, .int cnt] ∧ 0 ≤ i
theorem atI_map {cells : List Int} {i : Int} (h0 : 0 ≤ i) (h1 : i < (cells.length : Nat)) : ∃ c, atI (cells.map D.int) i = some (.int c) := by
  obtain ⟨n, rfl⟩ : ∃ n : Nat, i = n := ⟨i.toNat, by omega⟩
  have hn : n < cells.length := by omega
  refine ⟨cells[n], ?_⟩
  rw [atI_n (by omega) (by simp only [List.length_map]; omega)]
  simp [hn]
theorem draw_ok {M : Mem} {h : Addr} {o : MO} {many : Int} {P : D → Mem → Prop} (hM : M h = some o) (hv : HandV o) (h0 : 0 < many) (h1 : many < 1073741824) (q : ∀ n o', 0 ≤ n → n < many → HandV o' → P (.int n) (mset M h o')) : sem__law_draw [.ref h, .int many] M P := by
  obtain ⟨cells, i, left, mix, cnt, rfl, hi⟩ := hv
  unfold sem__law_draw b__law_draw
  dsimp only
  refine i_join (fun ρ M' => ∃ o x2, HandV o ∧ M' = mset M h o ∧ ρ = [some (.ref h), some (.int many), x2, none, none]) (fun nx' hn => ?_) ?_
  · walk_at "d"
    refine c_and (fun e1 e2 => ?_) fun _ => ?_
    · obtain ⟨c, hc⟩ := atI_map hi (by simpa using e2)
      walk_at "d"
      refine i_atL hc ?_
      walk_at "d"
      refine c_d (fun e3 => ?_) fun e3 => ?_
      · walk_at "d"
        simp only [mset_mset]
        exact hn _ _ ⟨_, some (.int c), ⟨cells, i + 1, c, _, cnt, rfl, by omega⟩, rfl, rfl⟩
      · walk_at "d"
        simp only [mset_mset]
        exact hn _ _ ⟨_, some (.int c), ⟨cells, i + 1, left, _, cnt, rfl, by omega⟩, rfl, rfl⟩
    · walk_at "d"
      refine hn _ _ ⟨_, _, ⟨cells, i, left, mix, cnt, rfl, hi⟩, (mset_self hM).symm, rfl⟩
  · rintro ρ M' ⟨o, x2, ⟨cells, i, left, mix, cnt, rfl, hi⟩, rfl, rfl⟩
    walk_at "d"
    refine c_d (fun e1 => ?_) fun _ => ?_
    · walk_at "d"
      rw [mset_mset, mcut_old hM, mcut_self]
      exact q _ _ (Int.emod_nonneg _ (by omega)) (Int.emod_lt_of_pos _ h0) ⟨cells, i, left / many, mix, cnt, rfl, hi⟩
    · walk_at "d"
      rw [mset_mset, mcut_old hM, mcut_self]
      exact q _ _ (Int.emod_nonneg _ (by omega)) (Int.emod_lt_of_pos _ h0) ⟨cells, i, left, mix, cnt + 1, rfl, hi⟩
end LK10
namespace LK10
open PySem L2 DL
theorem c_draw {M : Mem} {h : Addr} {o : MO} {many : Int} {P : D → Mem → Prop} (hv : HandV o) (h0 : 0 < many) (h1 : many < 1073741824) (q : ∀ n o', 0 ≤ n → n < many → HandV o' → P (.int n) (mset M h o')) : sem__law_draw [.ref h, .int many] (mset M h o) P :=
  draw_ok (mset_eq _ _ _) hv h0 h1 fun n o' a b c => by
    rw [mset_mset]
    exact q n o' a b c
theorem c_any {M : Mem} {h : Addr} {o : MO} {xs : List D} {P : D → Mem → Prop} (hv : HandV o) (h0 : 0 < xs.length) (h1 : xs.length < 1000) (q : ∀ d o', d ∈ xs → HandV o' → P d (mset M h o')) : sem__law_any [.ref h, .lst xs] (mset M h o) P := by
  unfold sem__law_any b__law_any
  dsimp only
  walk_at "d"
  refine c_draw hv (by omega) (by omega) fun n o' a b c => ?_
  refine i_atL (atI_n a (by omega)) ?_
  rw [mcut_mset]
  exact q _ _ (List.getElem_mem _) c
section
variable {M : Mem} {P : D → Mem → Prop} {n lo hi a b r : Int} {x y : D}
theorem c_isint (h : P (.bl true) M) : sem_is_integer [.int n] M P := by
  unfold sem_is_integer b_is_integer
  dsimp only
  walk_at "d"
  rw [mcut_self]
  exact h
local macro_rules | `(tactic| walk_at "d1") => `(tactic| with_reducible refine LK10.c_isint ?_)
theorem c_within (h : P (.bl (decide (lo ≤ n) && decide (n ≤ hi))) M) : sem_is_within [.int n, .int lo, .int hi] M P := by
  unfold sem_is_within b_is_within
  dsimp only
  walk_at "d"
  rw [mcut_self]
  exact h
theorem c_within_t (h1 : lo ≤ n ∧ n ≤ hi) (h : P (.bl true) M) : sem_is_within [.int n, .int lo, .int hi] M P := by
  refine c_within ?_
  rw [decide_eq_true h1.1, decide_eq_true h1.2]
  exact h
theorem c_istuple {xs : List D} (h : P (.bl (decide (lo ≤ (xs.length : Nat)) && decide (((xs.length : Nat) : Int) ≤ hi))) M) : sem_is_tuple [.tup xs, .int lo, .int hi] M P := by
  unfold sem_is_tuple b_is_tuple
  dsimp only
  walk_at "d"
  rw [mcut_self, Bool.true_and]
  exact h
local macro_rules | `(tactic| walk_at "d1") => `(tactic| first | ((with_reducible refine LK10.c_within_t ?_ ?_); (constructor <;> omega)) | with_reducible refine LK10.c_within ?_ | with_reducible refine LK10.c_istuple ?_)
theorem c_rate_t (h1 : 0 ≤ n ∧ n ≤ 9) (h : P (.bl true) M) : sem_is_rate [.int n] M P := by
  unfold sem_is_rate b_is_rate
  dsimp only
  walk_at "d"
  rw [mcut_self]
  exact h
theorem c_room_t (h1 : 0 ≤ n ∧ n ≤ 40) (h : P (.bl true) M) : sem_is_room [.int n] M P := by
  unfold sem_is_room b_is_room
  dsimp only
  walk_at "d"
  rw [mcut_self]
  exact h
theorem c_hours_t (h1 : 1 ≤ n ∧ n ≤ 6) (h : P (.bl true) M) : sem_is_hours [.int n] M P := by
  unfold sem_is_hours b_is_hours
  dsimp only
  walk_at "d"
  rw [mcut_self]
  exact h
local macro_rules | `(tactic| walk_at "d1") => `(tactic| first | ((with_reducible refine LK10.c_rate_t ?_ ?_); (constructor <;> omega)) | ((with_reducible refine LK10.c_room_t ?_ ?_); (constructor <;> omega)) | ((with_reducible refine LK10.c_hours_t ?_ ?_); (constructor <;> omega)))
theorem c_check (h1 : 1 ≤ n ∧ n ≤ 6) (h : P .non M) : sem_check_hours [.int n] M P := by
  unfold sem_check_hours b_check_hours
  dsimp only
  walk_at "d"
  refine c_ef rfl ?_
  walk_at "d"
  rw [mcut_self]
  exact h
def rated (n : Nat) (a b r : Int) : D := .tup ((List.range n).map fun (k : Nat) => pr 0 (if a ≤ (k : Int) ∧ (k : Int) ≤ b then r else 0))
theorem c_rated {n : Nat} (hn : n ≤ 1000) (h : P (rated n a b r) M) : sem_rated_between [.int n, .int a, .int b, .int r] M P := by
  unfold sem_rated_between b_rated_between
  dsimp only
  walk_at "d"
  refine lc_rng (n := n) (fun (k : Nat) => pr 0 (if a ≤ (k : Int) ∧ (k : Int) ≤ b then r else 0)) (by rw [sizeLine_eq]; omega) (fun _ => trivial) (fun k hk M Q q => ?_) ?_
  · walk_at "d"
    refine c_and (fun h1 h2 => ?_) fun hh => ?_
    · walk_at "d"
      rw [if_pos ⟨h1, h2⟩] at q
      exact q
    · walk_at "d"
      rw [if_neg hh] at q
      exact q
  · walk_at "d"
    rw [mcut_self]
    exact h
def summed (n : Nat) (a : Int) (x y : D) : D := .tup ((List.range n).map fun (k : Nat) => if a ≤ (k : Int) then y else x)
theorem c_summed {n : Nat} (hn : n ≤ 1000) (h : P (summed n a x y) M) : sem_summed_from [.int n, .int a, x, y] M P := by
  unfold sem_summed_from b_summed_from
  dsimp only
  walk_at "d"
  refine lc_rng (n := n) (fun (k : Nat) => if a ≤ (k : Int) then y else x) (by rw [sizeLine_eq]; omega) (fun _ => trivial) (fun k hk M Q q => ?_) ?_
  · walk_at "d"
    refine c_d (fun h1 => ?_) fun hh => ?_
    · walk_at "d"
      rw [if_pos h1] at q
      exact q
    · walk_at "d"
      rw [if_neg hh] at q
      exact q
  · walk_at "d"
    rw [mcut_self]
    exact h
end
end LK10
local macro_rules | `(tactic| walk_at "d1") => `(tactic| with_reducible refine LK10.c_isint ?_)
local macro_rules | `(tactic| walk_at "d1") => `(tactic| first | ((with_reducible refine LK10.c_within_t ?_ ?_); (constructor <;> omega)) | with_reducible refine LK10.c_within ?_ | with_reducible refine LK10.c_istuple ?_)
local macro_rules | `(tactic| walk_at "d1") => `(tactic| first | ((with_reducible refine LK10.c_rate_t ?_ ?_); (constructor <;> omega)) | ((with_reducible refine LK10.c_room_t ?_ ?_); (constructor <;> omega)) | ((with_reducible refine LK10.c_hours_t ?_ ?_); (constructor <;> omega)))
namespace LK10
open PySem L2 DL
theorem all_true {α : Type} (l : List α) : (l.map fun _ => true).all id = true := by
  rw [List.all_eq_true]
  intro b hb
  obtain ⟨_, _, rfl⟩ := List.mem_map.mp hb
  rfl
section
variable {M : Mem} {P : D → Mem → Prop} {n lo hi a b r : Int} {x y : D}
theorem c_areints {ns : List Int} {n : Nat} (hl : ns.length = n) (hn : n ≤ 1000) (hb : ∀ i ∈ ns, lo ≤ i ∧ i ≤ hi) (h : P (.bl true) M) : sem_are_integers [.tup (ns.map .int), .int n, .int lo, .int hi] M P := by
  unfold sem_are_integers b_are_integers
  dsimp only
  refine i_ret (i_andVP (b1 := true) (b2 := true) (fun P h => ?_) (fun _ P h => ?_) ?_)
  · walk_at "d"
    rw [List.length_map, hl, decide_eq_true (Int.le_refl _), Bool.and_self]
    exact h
  · walk_at "d"
    refine lc_map (enc := .int) (L := ns) (fun _ => .bl true) (by rw [sizeLine_eq]; omega) (fun _ _ _ => rfl) (fun x hx M Q q => ?_) ?_
    · have := hb x hx
      walk_at "d"
      exact q
    · walk_at "d"
      refine i_all (bs := ns.map fun _ => true) (by simp) ?_
      rw [all_true]
      exact h
  · rw [Bool.and_self, mcut_self]
    exact h
theorem c_draws {ns : List Int} {n : Nat} (hl : ns.length = n) (hn : n ≤ 1000) (hb : ∀ i ∈ ns, 0 ≤ i ∧ i ≤ 9) (h : P (.bl true) M) : sem_are_draws [.int n, .tup (ns.map .int)] M P := by
  unfold sem_are_draws b_are_draws
  dsimp only
  walk_at "d"
  refine c_areints hl hn hb ?_
  rw [mcut_self]
  exact h
theorem c_is {d : D} (hd : Shw d 60 1048576) (h : P (.bl true) M) : sem__law_is [d, d] M P := by
  obtain ⟨s, hs⟩ := shw_str hd
  unfold sem__law_is b__law_is
  dsimp only
  walk_at "d"
  refine hs _ _ ?_
  walk_at "d"
  refine hs _ _ ?_
  walk_at "d"
  rw [decide_eq_true rfl, mcut_self]
  exact h
theorem c_car {n : Nat} {come leave rate least most : Int} (hn : 1 ≤ n ∧ n ≤ 6) (h1 : 0 ≤ come ∧ come ≤ n - 1) (h2 : come + 1 ≤ leave ∧ leave ≤ n) (h3 : 0 ≤ rate ∧ rate ≤ 9) (h4 : 0 ≤ most ∧ most ≤ 99) (h5 : 0 ≤ least ∧ least ≤ most)
    (h : P (.tup [rated n come (leave - 1) rate, summed n (leave - 1) (pr 0 most) (pr least most)]) M) : sem_car_thing [.int n, .int come, .int leave, .int rate, .int least, .int most] M P := by
  unfold sem_car_thing b_car_thing
  dsimp only
  walk_at "d"
  refine c_check (by omega) ?_
  walk_at "d"
  refine c_ef rfl ?_
  walk_at "d"
  refine c_ef rfl ?_
  walk_at "d"
  refine c_rated (by omega) ?_
  walk_at "d"
  refine c_summed (by omega) ?_
  walk_at "d"
  rw [mcut_self]
  exact h
theorem c_run {n : Nat} {first last amount rate : Int} (hn : 1 ≤ n ∧ n ≤ 6) (h1 : 0 ≤ first ∧ first ≤ n - 1) (h2 : first ≤ last ∧ last ≤ n - 1) (h3 : 0 ≤ rate ∧ rate ≤ 9) (h4 : 0 ≤ amount ∧ amount ≤ 54)
    (h : P (.tup [rated n first last rate, summed n last (pr 0 amount) (pr amount amount)]) M) : sem_run_thing [.int n, .int first, .int last, .int amount, .int rate] M P := by
  unfold sem_run_thing b_run_thing
  dsimp only
  walk_at "d"
  refine c_check (by omega) ?_
  walk_at "d"
  refine c_ef rfl ?_
  walk_at "d"
  refine c_ef rfl ?_
  walk_at "d"
  refine c_rated (by omega) ?_
  walk_at "d"
  refine c_summed (by omega) ?_
  walk_at "d"
  rw [mcut_self]
  exact h
theorem c_store {n : Nat} {start room into out last : Int} (hn : 1 ≤ n ∧ n ≤ 6) (h1 : 0 ≤ room ∧ room ≤ 40) (h2 : 0 ≤ start ∧ start ≤ room) (h3 : 0 ≤ last ∧ last ≤ room) (h4 : 0 ≤ into ∧ into ≤ 9) (h5 : 0 ≤ out ∧ out ≤ 9)
    (h : P (.tup [.tup (List.replicate n (pr (0 - out) into)), summed n (n - 1) (pr (0 - start) (room - start)) (pr (last - start) (room - start))]) M) : sem_store_thing [.int n, .int start, .int room, .int into, .int out, .int last] M P := by
  unfold sem_store_thing b_store_thing
  dsimp only
  walk_at "d"
  refine c_check (by omega) ?_
  walk_at "d"
  refine c_ef rfl ?_
  walk_at "d"
  refine c_ef rfl ?_
  walk_at "d"
  refine c_summed (by omega) ?_
  walk_at "d"
  refine i_mulT (by omega) (by omega) (by simp) ?_
  walk_at "d"
  rw [mcut_self]
  rw [Int.toNat_natCast, List.flatten_replicate_singleton]
  exact h
/-- what the draws have come to behind each hour -/
def pre (ns : List Int) (k : Nat) : Int := (ns.take (k + 1)).sum
theorem pre_at (q : List Int) (x : Int) (r : List Int) : pre (q ++ x :: r) q.length = q.sum + x := by
  unfold pre
  rw [List.take_append, List.take_of_length_le (by omega)]
  simp [List.sum_append]
/-- a list that grows by what its items have come to -/
def grown (f : Int → D) : List Int → Int → List D
  | [], _ => []
  | x :: r, s => f (s + x) :: grown f r (s + x)
theorem grown_app (f : Int → D) (x : Int) : ∀ (q : List Int) (s : Int), grown f (q ++ [x]) s = grown f q s ++ [f (s + q.sum + x)]
  | [], s => by simp [grown]
  | y :: r, s => by
    simp only [List.cons_append, grown, grown_app f x r (s + y), List.sum_cons]
    rw [show s + y + r.sum + x = s + (y + r.sum) + x by omega]
theorem grown_len (f : Int → D) : ∀ (q : List Int) (s : Int), (grown f q s).length = q.length
  | [], _ => rfl
  | y :: r, s => by simp only [grown, List.length_cons, grown_len f r]
theorem grown_pre (f : Int → D) : ∀ (q : List Int) (s : Int), grown f q s = (List.range q.length).map fun k => f (s + pre q k)
  | [], _ => rfl
  | y :: r, s => by
    rw [List.length_cons, List.range_succ_eq_map, List.map_cons, List.map_map]
    simp only [grown, grown_pre f r]
    congr 1
    · simp [pre]
    · refine List.map_congr_left fun k hk => ?_
      simp only [Function.comp, pre, List.take_succ_cons, List.sum_cons]
      rw [Int.add_assoc]
theorem c_boiler {n : Nat} {start low high rate : Int} {ns : List Int} (hl : ns.length = n) (hb : ∀ i ∈ ns, 0 ≤ i ∧ i ≤ 9) (hn : 1 ≤ n ∧ n ≤ 6) (h1 : 0 ≤ low ∧ low ≤ high ∧ high ≤ 40) (h2 : 0 ≤ start ∧ start ≤ 40) (h3 : 0 ≤ rate ∧ rate ≤ 9)
    (h : P (.tup [.tup (List.replicate n (pr 0 rate)), .tup ((List.range n).map fun k => pr (low - start + pre ns k) (high - start + pre ns k))]) M) : sem_boiler_thing [.int n, .int start, .int low, .int high, .tup (ns.map .int), .int rate] M P := by
  unfold sem_boiler_thing b_boiler_thing
  dsimp only
  walk_at "d"
  refine c_check (by omega) ?_
  walk_at "d"
  refine lc_map (enc := .int) (L := [start, low, high]) (fun _ => .bl true) (by rw [sizeLine_eq]; simp) (fun _ _ _ => rfl) (fun x hx M Q q => ?_) ?_
  · simp only [List.mem_cons, List.not_mem_nil, or_false] at hx
    have : 0 ≤ x ∧ x ≤ 40 := by omega
    walk_at "d"
    exact q
  walk_at "d"
  refine i_all (bs := [true, true, true]) rfl ?_
  walk_at "d"
  refine c_ef rfl ?_
  walk_at "d"
  refine c_df (by omega) ?_
  walk_at "d"
  refine c_draws hl (by omega) hb ?_
  walk_at "d"
  refine c_ef rfl ?_
  walk_at "d"
  refine c_ef rfl ?_
  walk_at "d"
  intro p hp
  walk_at "d"
  refine for_all (L := ns) (enc := .int) (fun q ρ M' => M' = mset M p (.lst (grown (fun z => pr (low - start + z) (high - start + z)) q 0)) ∧ ∃ x9, ρ = [some (.int n), some (.int start), some (.int low), some (.int high), some (.tup (ns.map .int)), some (.int rate), none, some (.ref p), some (.int q.sum), x9]) ?_ (fun _ _ _ _ => rfl) ?_ ?_
  · exact ⟨rfl, none, rfl⟩
  · rintro q x r ρ M' e ⟨rfl, x9, rfl⟩ N hN
    walk_at "d"
    refine i_apK (mset_eq _ _ _) (by rw [grown_len, sizeLine_eq]; have := congrArg List.length e; simp only [List.length_append, List.length_cons] at this; omega) (hN _ _ ⟨?_, some (.int x), ?_⟩)
    · rw [mset_mset, grown_app, Int.zero_add]
    · rw [List.sum_append, List.sum_singleton]
      rfl
  · rintro ρ M' ⟨rfl, x9, rfl⟩
    walk_at "d"
    refine i_mulT (by omega) (by omega) (by simp) ?_
    walk_at "d"
    rw [mcut_new hp, mcut_self, Int.toNat_natCast, List.flatten_replicate_singleton, grown_pre, hl]
    simp only [Int.zero_add]
    exact h
theorem c_plainof {ns : List Int} (hz : ns.length ≤ 1000) (h : P (.tup [.tup (ns.map fun z => pr z z), .tup ((List.range ns.length).map fun k => pr (pre ns k) (pre ns k))]) M) : sem_plain_of [.tup (ns.map .int)] M P := by
  unfold sem_plain_of b_plain_of
  dsimp only
  walk_at "d"
  intro p hp
  walk_at "d"
  refine for_all (L := ns) (enc := .int) (fun q ρ M' => M' = mset M p (.lst (grown (fun z => pr z z) q 0)) ∧ ∃ x3, ρ = [some (.tup (ns.map .int)), some (.ref p), some (.int q.sum), x3]) ?_ (fun _ _ _ _ => rfl) ?_ ?_
  · exact ⟨rfl, none, rfl⟩
  · rintro q x r ρ M' e ⟨rfl, x3, rfl⟩ N hN
    walk_at "d"
    refine i_apK (mset_eq _ _ _) (by rw [grown_len, sizeLine_eq]; have := congrArg List.length e; simp only [List.length_append, List.length_cons] at this; omega) (hN _ _ ⟨?_, some (.int x), ?_⟩)
    · rw [mset_mset, grown_app, Int.zero_add]
    · rw [List.sum_append, List.sum_singleton]
      rfl
  · rintro ρ M' ⟨rfl, x3, rfl⟩
    walk_at "d"
    refine lc_map (enc := .int) (L := ns) (fun z => pr z z) (by rw [sizeLine_eq]; omega) (fun _ _ _ => rfl) (fun x hx M Q q => ?_) ?_
    · walk_at "d"
      exact q
    walk_at "d"
    rw [mcut_new hp, mcut_self, grown_pre]
    simp only [Int.zero_add]
    exact h
theorem c_plain {n : Nat} {ns : List Int} (hl : ns.length = n) (hn : 1 ≤ n ∧ n ≤ 6) (hb : ∀ i ∈ ns, -9 ≤ i ∧ i ≤ 9) (h : P (.tup [.tup (ns.map fun z => pr z z), .tup ((List.range n).map fun k => pr (pre ns k) (pre ns k))]) M) : sem_plain_thing [.int n, .tup (ns.map .int)] M P := by
  unfold sem_plain_thing b_plain_thing
  dsimp only
  walk_at "d"
  refine c_check (by omega) ?_
  walk_at "d"
  refine c_areints hl (by omega) (fun i hi => by have := hb i hi; omega) ?_
  walk_at "d"
  refine c_ef rfl ?_
  walk_at "d"
  refine c_plainof (by omega) ?_
  rw [mcut_self, hl]
  exact h
/-- the hand out of a script -/
theorem c_hand {ns : List Int} (hz : ns.length ≤ 1000) (q : ∀ p o, M p = none → HandV o → P (.ref p) (mset M p o)) : sem__law_hand [.scr ns] M P := by
  unfold sem__law_hand b__law_hand
  dsimp only
  walk_at "d"
  rw [cut_to (by decide), ← List.map_take]
  refine lc_map (enc := .int) (L := ns.take 60) (fun z => .int ((if z < 0 then -z else z) % 10 ^ 40)) (by rw [sizeLine_eq, List.length_take]; omega) (fun _ _ _ => rfl) (fun x hx M Q q => ?_) ?_
  · walk_at "d"
    exact q
  walk_at "d"
  intro p hp
  have e : (ns.take 60).map (fun z : Int => D.int ((if z < 0 then -z else z) % 10 ^ 40)) = ((ns.take 60).map fun z : Int => (if z < 0 then -z else z) % 10 ^ 40).map .int := by rw [List.map_map]; rfl
  rw [e]
  exact q p _ hp ⟨_, 0, 0, _, 0, rfl, Int.le_refl 0⟩
end
end LK10
namespace LK10
open PySem L2 DL
section
variable {M : Mem} {P : D → Mem → Prop}
theorem app_len {α : Type} {L q r : List α} {x : α} (e : L = q ++ x :: r) : L.length = q.length + 1 + r.length := by
  rw [e]
  simp
  omega
/-- a thing out of its hours' bounds -/
def thg (rs : List (Int × Int × Int × Int)) : D := .tup [.tup (rs.map fun x => pr x.1 x.2.1), .tup (rs.map fun x => pr x.2.2.1 x.2.2.2)]
theorem c_plans {rs : List (Int × Int × Int × Int)} (hn : rs.length ≤ 1000) (hb : ∀ x ∈ rs, -1000 ≤ x.1 ∧ x.1 ≤ 1000 ∧ -1000 ≤ x.2.1 ∧ x.2.1 ≤ 1000) (hsz : ∀ q x r, rs = q ++ x :: r → (plansK (q ++ [x])).length ≤ 1000000)
    (h : P (.lst ((plansK rs).map fun y => tupI y.1)) M) : sem__law_plans [thg rs] M P := by
  unfold sem__law_plans b__law_plans thg
  dsimp only
  walk_at "d"
  refine for_enum (L := rs) (enc := fun x => pr x.1 x.2.1) (fun q ρ M' => M' = M ∧ ∃ x4 x5 x6 x7 x8 x9 x10, ρ = [some (thg rs), some (.tup (rs.map fun x => pr x.1 x.2.1)), some (.tup (rs.map fun x => pr x.2.2.1 x.2.2.2)), some (.lst ((plansK q).map encP)), x4, x5, x6, x7, x8, x9, x10]) ?_ (fun _ _ _ _ => rfl) ?_ ?_
  · exact ⟨rfl, none, none, none, none, none, none, none, rfl⟩
  · rintro q x r ρ M' e ⟨rfl, x4, x5, x6, x7, x8, x9, x10, rfl⟩ N hN
    have hx := hb x (by rw [e]; simp)
    have hz := hsz q x r e
    rw [plansK_snoc] at hz
    walk_at "d"
    intro p hp
    walk_at "d"
    let cc : List Int × Int → Int → Bool := fun y a => decide (x.2.2.1 ≤ y.2 + a) && decide (y.2 + a ≤ x.2.2.2)
    let gg : List Int × Int → Int → List Int × Int := fun y a => (y.1 ++ [a], y.2 + a)
    let ff : List Int × Int → List (List Int × Int) := fun y => ((am x.1 (x.2.1 + 1 - x.1).toNat).filter (cc y)).map (gg y)
    have eF : (plansK q).flatMap ff = stepP (x.1, x.2.1) (x.2.2.1, x.2.2.2) (plansK q) := rfl
    refine for_all (L := plansK q) (enc := encP) (fun q2 ρ M2 => M2 = mset M' p (.lst ((q2.flatMap ff).map encP)) ∧ ∃ x8 x9 x10, ρ = [some (thg rs), some (.tup (rs.map fun x => pr x.1 x.2.1)), some (.tup (rs.map fun x => pr x.2.2.1 x.2.2.2)), some (.lst ((plansK q).map encP)), some (.int (q.length : Nat)), some (.int x.1), some (.int x.2.1), some (.ref p), x8, x9, x10]) ?_ (fun _ _ _ _ => rfl) ?_ ?_
    · exact ⟨rfl, x8, x9, x10, rfl⟩
    · rintro q2 y r2 ρ M2 e2 ⟨rfl, x8, x9, x10, rfl⟩ N2 hN2
      have hz2 : (q2.flatMap ff).length + (ff y).length ≤ 1000000 := by
        have h3 := hz
        rw [← eF, e2, List.flatMap_append, List.flatMap_cons, List.length_append, List.length_append] at h3
        omega
      walk_at "d"
      rw [rangeD_am]
      refine for_all (L := am x.1 (x.2.1 + 1 - x.1).toNat) (enc := .int) (fun q3 ρ M3 => M3 = mset M' p (.lst ((q2.flatMap ff ++ (q3.filter (cc y)).map (gg y)).map encP)) ∧ ∃ x10, ρ = [some (thg rs), some (.tup (rs.map fun x => pr x.1 x.2.1)), some (.tup (rs.map fun x => pr x.2.2.1 x.2.2.2)), some (.lst ((plansK q).map encP)), some (.int (q.length : Nat)), some (.int x.1), some (.int x.2.1), some (.ref p), some (tupI y.1), some (.int y.2), x10]) ?_ (fun _ _ _ _ => trivial) ?_ ?_
      · refine ⟨by simp, x10, rfl⟩
      · rintro q3 a r3 ρ M3 e3 ⟨rfl, x10, rfl⟩ N3 hN3
        walk_at "d"
        refine c_and (fun h1 h2 => ?_) fun h1 => ?_
        · have hc : cc y a = true := by simp [cc, h1, h2]
          have hz3 : ((q3.filter (cc y)).map (gg y)).length + 1 ≤ (ff y).length := by
            show _ ≤ (((am x.1 (x.2.1 + 1 - x.1).toNat).filter (cc y)).map (gg y)).length
            rw [e3, List.length_map, List.length_map, List.filter_append, List.filter_cons_of_pos hc, List.length_append, List.length_cons]
            omega
          walk_at "d"
          have hy : y.1.length = q.length := plansK_mem q _ (by rw [e2]; simp)
          have hq := app_len e
          refine i_addT (by rw [List.length_map, sizeLine_eq]; simp only [List.length_cons, List.length_nil]; omega) ?_
          walk_at "d"
          refine i_apK (mset_eq _ _ _) (by rw [List.length_map, List.length_append, sizeLine_eq]; omega) (hN3 _ _ ⟨?_, some (.int a), rfl⟩)
          simp only [mset_mset, List.filter_append, List.filter_cons_of_pos hc, List.filter_nil, List.map_append, List.map_cons, List.map_nil, List.append_assoc, gg]
          rw [show encP (y.1 ++ [a], y.2 + a) = .tup [.tup (y.1.map .int ++ [.int a]), .int (y.2 + a)] by simp only [encP, tupI, List.map_append, List.map_cons, List.map_nil]]
        · have hc : cc y a = false := by
            simp only [cc, Bool.and_eq_false_iff, decide_eq_false_iff_not]
            omega
          walk_at "d"
          refine hN3 _ _ ⟨?_, some (.int a), rfl⟩
          rw [List.filter_append, List.filter_cons_of_neg (by simp [hc]), List.filter_nil, List.append_nil]
      · rintro ρ M3 ⟨rfl, x10, rfl⟩
        refine hN2 _ _ ⟨?_, some (tupI y.1), some (.int y.2), x10, rfl⟩
        rw [List.flatMap_append, List.flatMap_singleton]
    · rintro ρ M2 ⟨rfl, x8, x9, x10, rfl⟩
      walk_at "d"
      refine hN _ _ ⟨?_, some (.int (q.length : Nat)), some (.int x.1), some (.int x.2.1), some (.ref p), x8, x9, x10, ?_⟩
      · rw [mdel_new hp]
      · rw [plansK_snoc, eF]
        rfl
  · rintro ρ M' ⟨rfl, x4, x5, x6, x7, x8, x9, x10, rfl⟩
    walk_at "d"
    have hz : (plansK rs).length ≤ 1000000 := by
      rcases List.eq_nil_or_concat rs with e | ⟨q, x, e⟩
      · rw [e]
        decide
      · have := hsz q x [] (by rw [e, List.concat_eq_append])
        rwa [e, List.concat_eq_append]
    refine lc_map (enc := encP) (L := plansK rs) (fun y => tupI y.1) (by rw [sizeLine_eq]; omega) (fun _ _ _ => rfl) (fun x hx M Q q => ?_) ?_
    · walk_at "d"
      exact q
    · rw [mcut_self]
      exact h
theorem c_rows {lo hi : Int} {n m : Nat} (hm : (m : Int) = hi + 1 - lo) (h0 : -1000 ≤ lo ∧ lo ≤ 1000 ∧ -1000 ≤ hi ∧ hi ≤ 1000) (hn : n ≤ 1000) (hsz : ∀ k ≤ n, m ^ k ≤ 1000000) (h : P (.lst ((rowsK (am lo m) n).map tupI)) M) : sem__law_rows [.int lo, .int hi, .int n] M P := by
  unfold sem__law_rows b__law_rows
  dsimp only
  walk_at "d"
  rw [rangeD_map]
  simp only [Int.zero_add]
  refine for_all (L := List.range n) (enc := fun (k : Nat) => .int (k : Int)) (fun q ρ M' => M' = M ∧ ∃ x4 x5 x6 x7, ρ = [some (.int lo), some (.int hi), some (.int n), some (.lst ((rowsK (am lo m) q.length).map tupI)), x4, x5, x6, x7]) ?_ (fun _ _ _ _ => trivial) ?_ ?_
  · exact ⟨rfl, none, none, none, none, rfl⟩
  · rintro q k r ρ M' e ⟨rfl, x4, x5, x6, x7, rfl⟩ N hN
    have hq := app_len e
    rw [List.length_range] at hq
    have hz := hsz (q.length + 1) (by omega)
    walk_at "d"
    intro p hp
    walk_at "d"
    refine for_all (L := rowsK (am lo m) q.length) (enc := tupI) (fun q2 ρ M2 => M2 = mset M' p (.lst ((stepR (am lo m) q2).map tupI)) ∧ ∃ x6 x7, ρ = [some (.int lo), some (.int hi), some (.int n), some (.lst ((rowsK (am lo m) q.length).map tupI)), some (.int (k : Nat)), some (.ref p), x6, x7]) ?_ (fun _ _ _ _ => rfl) ?_ ?_
    · exact ⟨rfl, x6, x7, rfl⟩
    · rintro q2 row r2 ρ M2 e2 ⟨rfl, x6, x7, rfl⟩ N2 hN2
      have hrow := (rowsK_mem (l := am lo m) (k := q.length) (row := row) (by rw [e2]; simp)).1
      have hl2 := app_len e2
      rw [rowsK_len, am_len] at hl2
      have hz2 : (stepR (am lo m) q2).length = q2.length * m := by
        unfold stepR
        rw [flatMap_len (m := m) (fun x _ => by rw [List.length_map, am_len])]
      have hz3 : q2.length * m + m ≤ 1000000 := by
        rw [Nat.pow_succ, hl2] at hz
        have : (q2.length + 1) * m ≤ (q2.length + 1 + r2.length) * m := Nat.mul_le_mul_right _ (by omega)
        rw [Nat.succ_mul] at this
        omega
      walk_at "d"
      rw [rangeD_am, show (hi + 1 - lo).toNat = m by omega]
      refine lc_map (enc := .int) (L := am lo m) (fun a => tupI (row ++ [a])) (by rw [am_len, sizeLine_eq]; omega) (fun _ _ _ => trivial) (fun a ha M Q q => ?_) ?_
      · walk_at "d"
        refine i_addT (by rw [List.length_map, sizeLine_eq]; simp only [List.length_cons, List.length_nil]; omega) ?_
        have e3 : (row ++ [a]).map D.int = row.map .int ++ [.int a] := by rw [List.map_append]; rfl
        show Q (.tup (row.map .int ++ [.int a])) M
        rw [← e3]
        exact q
      · refine i_exL (mset_eq _ _ _) (by rw [List.length_map, List.length_map, am_len, hz2, sizeLine_eq]; omega) (hN2 _ _ ⟨?_, some (tupI row), x7, rfl⟩)
        rw [mset_mset]
        unfold stepR
        rw [List.flatMap_append, List.flatMap_singleton, List.map_append, List.map_map]
        rfl
    · rintro ρ M2 ⟨rfl, x6, x7, rfl⟩
      walk_at "d"
      refine hN _ _ ⟨?_, some (.int (k : Nat)), some (.ref p), x6, x7, ?_⟩
      · rw [mdel_new hp]
      · rw [List.length_append]
        rfl
  · rintro ρ M' ⟨rfl, x4, x5, x6, x7, rfl⟩
    walk_at "d"
    rw [mcut_self, List.length_range]
    exact h
end
end LK10
namespace LK10
open PySem L2 DL
section
variable {M : Mem} {P : D → Mem → Prop} {h : Addr} {o : MO}
theorem c_anyI {ns : List Int} (hv : HandV o) (h0 : 0 < ns.length) (h1 : ns.length < 1000) (q : ∀ z o', z ∈ ns → HandV o' → P (.int z) (mset M h o')) : sem__law_any [.ref h, .lst (ns.map .int)] (mset M h o) P :=
  c_any hv (by simpa using h0) (by simpa using h1) fun d o' hd hv' => by
    obtain ⟨z, hz, rfl⟩ := List.mem_map.mp hd
    exact q z o' hz hv'
def carR (n : Nat) (come leave rate least most : Int) : List (Int × Int × Int × Int) := (List.range n).map fun (k : Nat) => (0, (if come ≤ (k : Int) ∧ (k : Int) ≤ leave - 1 then rate else 0), (if leave - 1 ≤ (k : Int) then least else 0), most)
theorem car_thg (n : Nat) (come leave rate least most : Int) : D.tup [rated n come (leave - 1) rate, summed n (leave - 1) (pr 0 most) (pr least most)] = thg (carR n come leave rate least most) := by
  unfold rated summed thg carR
  rw [List.map_map, List.map_map]
  congr 3
  congr 1
  refine List.map_congr_left fun k _ => ?_
  simp only [Function.comp]
  split <;> rfl
/-- the amounts outside -/
def awayS (come leave : Int) (row : List Int) : List Int := ((row.zipIdx).filter fun z => !(decide (come ≤ ((z.2 : Nat) : Int)) && decide (((z.2 : Nat) : Int) < leave))).map (·.1)
def keepCar (come leave least most : Int) (row : List Int) : Bool := decide ((awayS come leave row).sum = 0) && (decide (least ≤ row.sum) && decide (row.sum ≤ most))
theorem row1 {row : List Int} (h : row.length = 1) : ∃ a, row = [a] := List.length_eq_one_iff.mp h
theorem row2 {row : List Int} (h : row.length = 2) : ∃ a b, row = [a, b] := by
  match row, h with
  | [a, b], _ => exact ⟨a, b, rfl⟩
theorem row3 {row : List Int} (h : row.length = 3) : ∃ a b c, row = [a, b, c] := by
  match row, h with
  | [a, b, c], _ => exact ⟨a, b, c, rfl⟩
theorem car_keep {n : Nat} {come leave rate least most : Int} (hn : 1 ≤ n ∧ n ≤ 3) (h1 : 0 ≤ come ∧ come ≤ n - 1) (h2 : come + 1 ≤ leave ∧ leave ≤ n) (h4 : 0 ≤ least ∧ least ≤ most) {row : List Int} (hl : row.length = n) (hr : ∀ a ∈ row, 0 ≤ a ∧ a ≤ rate) :
    okR (carR n come leave rate least most) row 0 = keepCar come leave least most row := by
  rw [Bool.eq_iff_iff]
  obtain rfl | rfl | rfl : n = 1 ∨ n = 2 ∨ n = 3 := by omega
  · obtain ⟨a, rfl⟩ := row1 hl
    have ha := hr a (by simp)
    obtain rfl : come = 0 := by omega
    obtain rfl : leave = 1 := by omega
    simp [carR, okR, okA, keepCar, awayS, List.range_succ, List.zipIdx_cons]
    omega
  · obtain ⟨a, b, rfl⟩ := row2 hl
    have ha := hr a (by simp)
    have hb := hr b (by simp)
    obtain rfl | rfl : come = 0 ∨ come = 1 := by omega
    · obtain rfl | rfl : leave = 1 ∨ leave = 2 := by omega
      · simp [carR, okR, okA, keepCar, awayS, List.range_succ, List.zipIdx_cons]
        omega
      · simp [carR, okR, okA, keepCar, awayS, List.range_succ, List.zipIdx_cons]
        omega
    · obtain rfl : leave = 2 := by omega
      simp [carR, okR, okA, keepCar, awayS, List.range_succ, List.zipIdx_cons]
      omega
  · obtain ⟨a, b, c, rfl⟩ := row3 hl
    have ha := hr a (by simp)
    have hb := hr b (by simp)
    have hc := hr c (by simp)
    obtain ⟨rfl, rfl⟩ | ⟨rfl, rfl⟩ | ⟨rfl, rfl⟩ | ⟨rfl, rfl⟩ | ⟨rfl, rfl⟩ | ⟨rfl, rfl⟩ : (come = 0 ∧ leave = 1) ∨ (come = 0 ∧ leave = 2) ∨ (come = 0 ∧ leave = 3) ∨ (come = 1 ∧ leave = 2) ∨ (come = 1 ∧ leave = 3) ∨ (come = 2 ∧ leave = 3) := by omega
    all_goals
      simp [carR, okR, okA, keepCar, awayS, List.range_succ, List.zipIdx_cons]
      omega
theorem shw_thg {rs : List (Int × Int × Int × Int)} (hn : rs.length ≤ 100) (h : ∀ x ∈ rs, -1000000 ≤ x.1 ∧ x.1 ≤ 1000000 ∧ -1000000 ≤ x.2.1 ∧ x.2.1 ≤ 1000000 ∧ -1000000 ≤ x.2.2.1 ∧ x.2.2.1 ≤ 1000000 ∧ -1000000 ≤ x.2.2.2 ∧ x.2.2.2 ≤ 1000000) : Shw (thg rs) 60 1048576 :=
  (Shw.two (Shw.map (dep := 1) (wt := 2) (n := 100) (fun x hx => Shw.pr (by have := h x hx; omega)) hn) (Shw.map (dep := 1) (wt := 2) (n := 100) (fun x hx => Shw.pr (by have := h x hx; omega)) hn)).mono (by decide) (by decide)
theorem c_plans_keep {lo : Int} {m : Nat} {rs : List (Int × Int × Int × Int)} {keep : List Int → Bool} (h : ∀ x ∈ rs, lo ≤ x.1 ∧ x.2.1 < lo + m ∧ x.1 ≤ x.2.1 + 1) (hm : m ≤ 19) (hl : rs.length ≤ 3) (h0 : -900 ≤ lo) (h1 : lo ≤ 900) (hk : ∀ row : List Int, row.length = rs.length → (∀ a ∈ row, lo ≤ a ∧ a < lo + m) → okR rs row 0 = keep row)
    (q : P (.lst (((rowsK (am lo m) rs.length).filter keep).map tupI)) M) : sem__law_plans [thg rs] M P := by
  refine c_plans (by omega) (fun x hx => by have := h x hx; omega) (plans_sz h hm hl) ?_
  rw [plans_keep h hk]
  exact q
set_option maxHeartbeats 1000000 in
theorem ok_car {n : Nat} (hn : 1 ≤ n ∧ n ≤ 6) (hv : HandV o) (q : ∀ o', HandV o' → P (.bl true) (mset M h o')) : sem__law_car [.ref h, .int n] (mset M h o) P := by
  unfold sem__law_car b__law_car
  dsimp only
  walk_at "d"
  refine c_draw hv (by omega) (by omega) fun come o1 c0 c1 hv1 => ?_
  walk_at "d"
  refine c_draw hv1 (by omega) (by omega) fun x2 o2 c2 c3 hv2 => ?_
  walk_at "d"
  refine c_draw hv2 (by omega) (by omega) fun rate o3 r0 r1 hv3 => ?_
  walk_at "d"
  refine c_draw hv3 (by omega) (by omega) fun x4 o4 c4 c5 hv4 => ?_
  walk_at "d"
  refine c_draw hv4 (by omega) (by omega) fun x5 o5 c6 c7 hv5 => ?_
  walk_at "d"
  refine c_anyI (ns := [0, 1, x4, x5]) hv5 (by simp) (by simp) fun least o6 hl hv6 => ?_
  have l0 : 0 ≤ least ∧ least ≤ 99 := by
    simp only [List.mem_cons, List.not_mem_nil, or_false] at hl
    omega
  walk_at "d"
  refine c_anyI (ns := [0, 1, 5, 99]) hv6 (by simp) (by simp) fun x7 o7 hl7 hv7 => ?_
  have l7 : 0 ≤ x7 := by
    simp only [List.mem_cons, List.not_mem_nil, or_false] at hl7
    omega
  walk_at "d"
  generalize hlv : come + 1 + x2 = leave
  generalize hmo : (if least + x7 < 99 then least + x7 else 99) = most
  have m0 : least ≤ most ∧ most ≤ 99 := by
    split at hmo <;> omega
  refine lc_rng (n := n) (fun k => pr 0 (if come ≤ (k : Int) ∧ (k : Int) ≤ leave - 1 then rate else 0)) (by rw [sizeLine_eq]; omega) (fun _ => trivial) (fun k hk M Q q => ?_) ?_
  · walk_at "d"
    refine c_and (fun h1 h2 => ?_) fun hh => ?_
    · walk_at "d"
      rw [if_pos ⟨h1, by omega⟩] at q
      exact q
    · walk_at "d"
      rw [if_neg (by omega)] at q
      exact q
  walk_at "d"
  refine lc_rng (n := n) (fun k => pr (if leave - 1 ≤ (k : Int) then least else 0) most) (by rw [sizeLine_eq]; omega) (fun _ => trivial) (fun k hk M Q q => ?_) ?_
  · walk_at "d"
    refine c_d (fun h1 => ?_) fun hh => ?_
    · walk_at "d"
      rw [if_pos h1] at q
      exact q
    · walk_at "d"
      rw [if_neg hh] at q
      exact q
  walk_at "d"
  refine c_car hn (by omega) (by omega) (by omega) (by omega) (by omega) ?_
  rw [car_thg]
  walk_at "d"
  have e2 : D.tup [.tup ((List.range n).map fun (k : Nat) => pr 0 (if come ≤ (k : Int) ∧ (k : Int) ≤ leave - 1 then rate else 0)), .tup ((List.range n).map fun (k : Nat) => pr (if leave - 1 ≤ (k : Int) then least else 0) most)] = thg (carR n come leave rate least most) := by
    unfold thg carR
    rw [List.map_map, List.map_map]
    rfl
  rw [e2]
  have hR : ∀ x ∈ carR n come leave rate least most, 0 ≤ x.1 ∧ x.2.1 < 0 + ((rate + 1).toNat : Int) ∧ x.1 ≤ x.2.1 + 1 ∧ x.2.1 ≤ 9 ∧ 0 ≤ x.2.2.1 ∧ x.2.2.1 ≤ 99 ∧ 0 ≤ x.2.2.2 ∧ x.2.2.2 ≤ 99 ∧ x.1 = 0 := by
    intro x hx
    obtain ⟨k, _, rfl⟩ := List.mem_map.mp hx
    dsimp only
    refine ⟨Int.le_refl 0, ?_, ?_, ?_, ?_, ?_, by omega, by omega, rfl⟩ <;> split <;> omega
  refine c_is (shw_thg (by simp [carR]; omega) fun x hx => by have := hR x hx; omega) ?_
  walk_at "d"
  refine c_ef rfl ?_
  walk_at "d"
  refine c_d (fun g3 => ?_) fun g3 => ?_
  · walk_at "d"
    rw [mcut_mset]
    exact q _ hv7
  walk_at "d"
  intro p hp
  walk_at "d"
  refine c_rows (m := (rate + 1).toNat) (by omega) (by omega) (by omega) (fun k hk => pow_bd (by omega) (by omega)) ?_
  walk_at "d"
  refine for_all (L := rowsK (am 0 (rate + 1).toNat) n) (enc := tupI) (fun q ρ M' => M' = mset (mset M h o7) p (.lst ((q.filter (keepCar come leave least most)).map tupI)) ∧ ∃ x8 x9 x12 x14, ρ = [some (.ref h), some (.int n), some (.int come), some (.int leave), some (.int rate), some (.int least), some (.int most), none, x8, x9, some (thg (carR n come leave rate least most)), some (.ref p), x12, none, x14]) ?_ (fun _ _ _ _ => rfl) ?_ ?_
  · exact ⟨rfl, _, _, none, none, rfl⟩
  · rintro q1 row r1 ρ M' e ⟨rfl, x8, x9, x12, x14, rfl⟩ N hN
    have hl := app_len e
    rw [rowsK_len, am_len] at hl
    have hz := pow_bd (m := (rate + 1).toNat) (k := n) (by omega) (by omega)
    have hf := List.length_filter_le (keepCar come leave least most) q1
    have hrow := (rowsK_mem (l := am 0 (rate + 1).toNat) (k := n) (row := row) (by rw [e]; simp)).1
    walk_at "d"
    rw [enumD_zip]
    refine lc_fz (L := row.zipIdx) (enc := fun z => .tup [.int (z.2 : Nat), .int z.1]) (fun z => !(decide (come ≤ ((z.2 : Nat) : Int)) && decide (((z.2 : Nat) : Int) < leave))) (fun z => .int z.1) (by rw [List.length_zipIdx, sizeLine_eq]; omega) ?_ (fun z hz M Q R h1 h2 => ?_) ?_
    · exact fun _ _ _ => rfl
    · walk_at "d"
      refine c_b (fun h => ?_) fun h => ?_
      · walk_at "d"
        exact h1 h
      · exact h2 h
    have e3 : ((row.zipIdx).filter fun z => !(decide (come ≤ ((z.2 : Nat) : Int)) && decide (((z.2 : Nat) : Int) < leave))).map (fun z => D.int z.1) = (awayS come leave row).map .int := by
      unfold awayS
      rw [List.map_map]
      rfl
    rw [e3]
    walk_at "d"
    refine c_b (b := keepCar come leave least most row) (fun hk => ?_) fun hk => ?_
    · walk_at "d"
      refine i_apK (mset_eq _ _ _) (by rw [List.length_map, sizeLine_eq]; omega) (hN _ _ ⟨?_, x8, x9, some (tupI row), some (.lst ((awayS come leave row).map .int)), rfl⟩)
      rw [mset_mset, filter_snoc, if_pos hk, List.map_append]
      rfl
    · walk_at "d"
      refine hN _ _ ⟨?_, x8, x9, some (tupI row), some (.lst ((awayS come leave row).map .int)), rfl⟩
      rw [filter_snoc, if_neg (by simp [hk])]
  · rintro ρ M' ⟨rfl, x8, x9, x12, x14, rfl⟩
    walk_at "d"
    have hlen : (carR n come leave rate least most).length = n := by simp [carR]
    refine c_plans_keep (lo := 0) (m := (rate + 1).toNat) (keep := keepCar come leave least most) (fun x hx => by have := hR x hx; omega) (by omega) (by omega) (by omega) (by omega) (fun row h1 h2 => car_keep (by omega) (by omega) (by omega) (by omega) (by omega) (fun a ha => by have := h2 a ha; omega)) ?_
    rw [hlen]
    walk_at "d"
    refine i_eqLs rfl (pdT_ref (mset_eq _ _ _)) (Shw.rows (lo := 0) (hi := 9) (by omega) (fun r hr a ha => by
      have := am_mem ((rowsK_mem (List.mem_filter.mp hr).1).2 a ha)
      omega) (w := n) (fun r hr => Nat.le_of_eq (rowsK_mem (List.mem_filter.mp hr).1).1)) ?_
    rw [mcut_new (mset_none hp), mcut_mset]
    exact q _ hv7
end
end LK10
namespace LK10
open PySem L2 DL
section
variable {M : Mem} {P : D → Mem → Prop} {h : Addr} {o : MO}
def runR (n : Nat) (first last rate amount : Int) : List (Int × Int × Int × Int) := (List.range n).map fun (k : Nat) => (0, (if first ≤ (k : Int) ∧ (k : Int) ≤ last then rate else 0), (if last ≤ (k : Int) then amount else 0), amount)
theorem run_thg (n : Nat) (first last rate amount : Int) : D.tup [rated n first last rate, summed n last (pr 0 amount) (pr amount amount)] = thg (runR n first last rate amount) := by
  unfold rated summed thg runR
  rw [List.map_map, List.map_map]
  congr 3
  congr 1
  refine List.map_congr_left fun k _ => ?_
  simp only [Function.comp]
  split <;> rfl
def awayT (first last : Int) (row : List Int) : List Int := ((row.zipIdx).filter fun z => !(decide (first ≤ ((z.2 : Nat) : Int)) && decide (((z.2 : Nat) : Int) ≤ last))).map (·.1)
def keepRun (first last amount : Int) (row : List Int) : Bool := decide ((awayT first last row).sum = 0) && decide (row.sum = amount)
theorem run_keep {n : Nat} {first last rate amount : Int} (hn : 1 ≤ n ∧ n ≤ 3) (h1 : 0 ≤ first ∧ first ≤ last ∧ last ≤ n - 1) (h4 : 0 ≤ amount) {row : List Int} (hl : row.length = n) (hr : ∀ a ∈ row, 0 ≤ a ∧ a ≤ rate) :
    okR (runR n first last rate amount) row 0 = keepRun first last amount row := by
  rw [Bool.eq_iff_iff]
  obtain rfl | rfl | rfl : n = 1 ∨ n = 2 ∨ n = 3 := by omega
  · obtain ⟨a, rfl⟩ := row1 hl
    have ha := hr a (by simp)
    obtain rfl : first = 0 := by omega
    obtain rfl : last = 0 := by omega
    simp [runR, okR, okA, keepRun, awayT, List.range_succ, List.zipIdx_cons]
    omega
  · obtain ⟨a, b, rfl⟩ := row2 hl
    have ha := hr a (by simp)
    have hb := hr b (by simp)
    obtain ⟨rfl, rfl⟩ | ⟨rfl, rfl⟩ | ⟨rfl, rfl⟩ : (first = 0 ∧ last = 0) ∨ (first = 0 ∧ last = 1) ∨ (first = 1 ∧ last = 1) := by omega
    all_goals
      simp [runR, okR, okA, keepRun, awayT, List.range_succ, List.zipIdx_cons]
      omega
  · obtain ⟨a, b, c, rfl⟩ := row3 hl
    have ha := hr a (by simp)
    have hb := hr b (by simp)
    have hc := hr c (by simp)
    obtain ⟨rfl, rfl⟩ | ⟨rfl, rfl⟩ | ⟨rfl, rfl⟩ | ⟨rfl, rfl⟩ | ⟨rfl, rfl⟩ | ⟨rfl, rfl⟩ : (first = 0 ∧ last = 0) ∨ (first = 0 ∧ last = 1) ∨ (first = 0 ∧ last = 2) ∨ (first = 1 ∧ last = 1) ∨ (first = 1 ∧ last = 2) ∨ (first = 2 ∧ last = 2) := by omega
    all_goals
      simp [runR, okR, okA, keepRun, awayT, List.range_succ, List.zipIdx_cons]
      omega
set_option maxHeartbeats 1000000 in
theorem ok_run {n : Nat} (hn : 1 ≤ n ∧ n ≤ 6) (hv : HandV o) (q : ∀ o', HandV o' → P (.bl true) (mset M h o')) : sem__law_run [.ref h, .int n] (mset M h o) P := by
  unfold sem__law_run b__law_run
  dsimp only
  walk_at "d"
  refine c_draw hv (by omega) (by omega) fun first o1 c0 c1 hv1 => ?_
  walk_at "d"
  refine c_draw hv1 (by omega) (by omega) fun x2 o2 c2 c3 hv2 => ?_
  walk_at "d"
  refine c_draw hv2 (by omega) (by omega) fun rate o3 r0 r1 hv3 => ?_
  walk_at "d"
  refine c_draw hv3 (by omega) (by omega) fun x4 o4 c4 c5 hv4 => ?_
  walk_at "d"
  refine c_draw hv4 (by omega) (by omega) fun x5 o5 c6 c7 hv5 => ?_
  walk_at "d"
  refine c_anyI (ns := [0, 1, x4, x5]) hv5 (by simp) (by simp) fun amount o7 hl hv7 => ?_
  have l0 : 0 ≤ amount ∧ amount ≤ 54 := by
    simp only [List.mem_cons, List.not_mem_nil, or_false] at hl
    omega
  generalize hlv : first + x2 = last
  walk_at "d"
  refine lc_rng (n := n) (fun k => pr 0 (if first ≤ (k : Int) ∧ (k : Int) ≤ last then rate else 0)) (by rw [sizeLine_eq]; omega) (fun _ => trivial) (fun k hk M Q q => ?_) ?_
  · walk_at "d"
    refine c_and (fun h1 h2 => ?_) fun hh => ?_
    · walk_at "d"
      rw [if_pos ⟨h1, h2⟩] at q
      exact q
    · walk_at "d"
      rw [if_neg hh] at q
      exact q
  walk_at "d"
  refine lc_rng (n := n) (fun k => pr (if last ≤ (k : Int) then amount else 0) amount) (by rw [sizeLine_eq]; omega) (fun _ => trivial) (fun k hk M Q q => ?_) ?_
  · walk_at "d"
    refine c_d (fun h1 => ?_) fun hh => ?_
    · walk_at "d"
      rw [if_pos h1] at q
      exact q
    · walk_at "d"
      rw [if_neg hh] at q
      exact q
  walk_at "d"
  refine c_run hn (by omega) (by omega) (by omega) (by omega) ?_
  rw [run_thg]
  walk_at "d"
  have e2 : D.tup [.tup ((List.range n).map fun (k : Nat) => pr 0 (if first ≤ (k : Int) ∧ (k : Int) ≤ last then rate else 0)), .tup ((List.range n).map fun (k : Nat) => pr (if last ≤ (k : Int) then amount else 0) amount)] = thg (runR n first last rate amount) := by
    unfold thg runR
    rw [List.map_map, List.map_map]
    rfl
  rw [e2]
  have hR : ∀ x ∈ runR n first last rate amount, 0 ≤ x.1 ∧ x.2.1 < 0 + ((rate + 1).toNat : Int) ∧ x.1 ≤ x.2.1 + 1 ∧ x.2.1 ≤ 9 ∧ 0 ≤ x.2.2.1 ∧ x.2.2.1 ≤ 99 ∧ 0 ≤ x.2.2.2 ∧ x.2.2.2 ≤ 99 ∧ x.1 = 0 := by
    intro x hx
    obtain ⟨k, _, rfl⟩ := List.mem_map.mp hx
    dsimp only
    refine ⟨Int.le_refl 0, ?_, ?_, ?_, ?_, ?_, by omega, by omega, rfl⟩ <;> split <;> omega
  refine c_is (shw_thg (by simp [runR]; omega) fun x hx => by have := hR x hx; omega) ?_
  walk_at "d"
  refine c_ef rfl ?_
  walk_at "d"
  refine c_d (fun g3 => ?_) fun g3 => ?_
  · walk_at "d"
    rw [mcut_mset]
    exact q _ hv7
  walk_at "d"
  intro p hp
  walk_at "d"
  refine c_rows (m := (rate + 1).toNat) (by omega) (by omega) (by omega) (fun k hk => pow_bd (by omega) (by omega)) ?_
  walk_at "d"
  refine for_all (L := rowsK (am 0 (rate + 1).toNat) n) (enc := tupI) (fun q ρ M' => M' = mset (mset M h o7) p (.lst ((q.filter (keepRun first last amount)).map tupI)) ∧ ∃ x7 x8 x11 x13, ρ = [some (.ref h), some (.int n), some (.int first), some (.int last), some (.int rate), some (.int amount), none, x7, x8, some (thg (runR n first last rate amount)), some (.ref p), x11, none, x13]) ?_ (fun _ _ _ _ => rfl) ?_ ?_
  · exact ⟨rfl, _, _, none, none, rfl⟩
  · rintro q1 row r1 ρ M' e ⟨rfl, x7, x8, x11, x13, rfl⟩ N hN
    have hl := app_len e
    rw [rowsK_len, am_len] at hl
    have hz := pow_bd (m := (rate + 1).toNat) (k := n) (by omega) (by omega)
    have hf := List.length_filter_le (keepRun first last amount) q1
    have hrow := (rowsK_mem (l := am 0 (rate + 1).toNat) (k := n) (row := row) (by rw [e]; simp)).1
    walk_at "d"
    rw [enumD_zip]
    refine lc_fz (L := row.zipIdx) (enc := fun z => .tup [.int (z.2 : Nat), .int z.1]) (fun z => !(decide (first ≤ ((z.2 : Nat) : Int)) && decide (((z.2 : Nat) : Int) ≤ last))) (fun z => .int z.1) (by rw [List.length_zipIdx, sizeLine_eq]; omega) ?_ (fun z hz M Q R h1 h2 => ?_) ?_
    · exact fun _ _ _ => rfl
    · walk_at "d"
      refine c_b (fun h => ?_) fun h => ?_
      · walk_at "d"
        exact h1 h
      · exact h2 h
    have e3 : ((row.zipIdx).filter fun z => !(decide (first ≤ ((z.2 : Nat) : Int)) && decide (((z.2 : Nat) : Int) ≤ last))).map (fun z => D.int z.1) = (awayT first last row).map .int := by
      unfold awayT
      rw [List.map_map]
      rfl
    rw [e3]
    walk_at "d"
    refine c_b (b := keepRun first last amount row) (fun hk => ?_) fun hk => ?_
    · walk_at "d"
      refine i_exL (mset_eq _ _ _) (by rw [List.length_map, sizeLine_eq]; simp only [List.length_cons, List.length_nil]; omega) (hN _ _ ⟨?_, x7, x8, some (tupI row), some (.lst ((awayT first last row).map .int)), rfl⟩)
      rw [mset_mset, filter_snoc, if_pos hk, List.map_append]
      rfl
    · walk_at "d"
      refine i_exL (mset_eq _ _ _) (by rw [List.length_map, sizeLine_eq]; simp only [List.length_cons, List.length_nil]; omega) (hN _ _ ⟨?_, x7, x8, some (tupI row), some (.lst ((awayT first last row).map .int)), rfl⟩)
      rw [mset_mset, filter_snoc, if_neg (by simp [hk]), List.append_nil]
  · rintro ρ M' ⟨rfl, x7, x8, x11, x13, rfl⟩
    walk_at "d"
    have hlen : (runR n first last rate amount).length = n := by simp [runR]
    refine c_plans_keep (lo := 0) (m := (rate + 1).toNat) (keep := keepRun first last amount) (fun x hx => by have := hR x hx; omega) (by omega) (by omega) (by omega) (by omega) (fun row h1 h2 => run_keep (by omega) (by omega) (by omega) (by omega) (fun a ha => by have := h2 a ha; omega)) ?_
    rw [hlen]
    walk_at "d"
    refine i_eqLs rfl (pdT_ref (mset_eq _ _ _)) (Shw.rows (lo := 0) (hi := 9) (by omega) (fun r hr a ha => by
      have := am_mem ((rowsK_mem (List.mem_filter.mp hr).1).2 a ha)
      omega) (w := n) (fun r hr => Nat.le_of_eq (rowsK_mem (List.mem_filter.mp hr).1).1)) ?_
    rw [mcut_new (mset_none hp), mcut_mset]
    exact q _ hv7
end
end LK10
namespace LK10
open PySem L2 DL
section
variable {M : Mem} {P : D → Mem → Prop} {h : Addr} {o : MO}
def storeR (n : Nat) (start room into out last : Int) : List (Int × Int × Int × Int) := (List.range n).map fun (k : Nat) => (0 - out, into, (if (n : Int) - 1 ≤ (k : Int) then last - start else 0 - start), room - start)
theorem rep_map {α : Type} (c : α) (n : Nat) : List.replicate n c = (List.range n).map fun _ => c := by
  rw [List.map_const', List.length_range]
theorem store_thg (n : Nat) (start room into out last : Int) : D.tup [.tup (List.replicate n (pr (0 - out) into)), summed n (n - 1) (pr (0 - start) (room - start)) (pr (last - start) (room - start))] = thg (storeR n start room into out last) := by
  unfold summed thg storeR
  rw [List.map_map, List.map_map, rep_map]
  congr 3
  congr 1
  refine List.map_congr_left fun k _ => ?_
  simp only [Function.comp]
  split <;> rfl
theorem store_sums {n : Nat} (hn : 1 ≤ n) (a b : D) : List.replicate ((n : Int) - 1).toNat a ++ [b] = (List.range n).map fun (k : Nat) => if (n : Int) - 1 ≤ (k : Int) then b else a := by
  obtain ⟨m, rfl⟩ : ∃ m, n = m + 1 := ⟨n - 1, by omega⟩
  rw [List.range_succ, List.map_append, show (((m + 1 : Nat) : Int) - 1).toNat = m by omega, rep_map]
  congr 1
  · refine List.map_congr_left fun k hk => ?_
    have := List.mem_range.mp hk
    rw [if_neg (by omega)]
  · simp only [List.map_cons, List.map_nil]
    rw [if_pos (by omega)]
def conts (n : Nat) (start : Int) (row : List Int) : List Int := (List.range n).map fun k => start + pre row k
def keepStore (n : Nat) (start last room : Int) (row : List Int) : Bool := ((conts n start row).map fun z => decide (0 ≤ z) && decide (z ≤ room)).all id && decide (last ≤ start + row.sum)
theorem store_keep {n : Nat} {start room into out last : Int} (hn : 1 ≤ n ∧ n ≤ 3) (h1 : 0 ≤ start ∧ start ≤ room) (h2 : 0 ≤ last ∧ last ≤ room) {row : List Int} (hl : row.length = n) (hr : ∀ a ∈ row, 0 - out ≤ a ∧ a ≤ into) :
    okR (storeR n start room into out last) row 0 = keepStore n start last room row := by
  rw [Bool.eq_iff_iff]
  obtain rfl | rfl | rfl : n = 1 ∨ n = 2 ∨ n = 3 := by omega
  · obtain ⟨a, rfl⟩ := row1 hl
    have ha := hr a (by simp)
    simp [storeR, okR, okA, keepStore, conts, pre, List.range_succ]
    omega
  · obtain ⟨a, b, rfl⟩ := row2 hl
    have ha := hr a (by simp)
    have hb := hr b (by simp)
    simp [storeR, okR, okA, keepStore, conts, pre, List.range_succ]
    omega
  · obtain ⟨a, b, c, rfl⟩ := row3 hl
    have ha := hr a (by simp)
    have hb := hr b (by simp)
    have hc := hr c (by simp)
    simp [storeR, okR, okA, keepStore, conts, pre, List.range_succ]
    omega
theorem atI_end {α : Type} (l : List α) (x : α) : atI (l ++ [x]) (-1) = some x := by
  unfold atI ixN
  rw [if_neg (by decide), List.length_append, List.length_singleton, if_pos (by omega)]
  simp only [Option.bind_some]
  rw [show (-1 + ((l.length + 1 : Nat) : Int)).toNat = l.length by omega]
  simp
theorem conts_end {n : Nat} (hn : 1 ≤ n) {start : Int} {row : List Int} (hl : row.length = n) : atI ((conts n start row).map D.int) (-1) = some (.int (start + row.sum)) := by
  obtain ⟨m, rfl⟩ : ∃ m, n = m + 1 := ⟨n - 1, by omega⟩
  unfold conts
  rw [List.range_succ, List.map_append, List.map_append]
  simp only [List.map_cons, List.map_nil]
  rw [atI_end]
  congr 3
  unfold pre
  rw [List.take_of_length_le (by omega)]
local macro_rules | `(tactic| walk_at "d1") => `(tactic| (with_reducible apply DL.i_ifI); (intro PB hP; walk_at "d"; exact hP); (intro _ PB hP; walk_at "d"; exact hP); (intro _ PB hP; walk_at "d"; exact hP))
set_option maxHeartbeats 1000000 in
theorem ok_store {n : Nat} (hn : 1 ≤ n ∧ n ≤ 6) (hv : HandV o) (q : ∀ o', HandV o' → P (.bl true) (mset M h o')) : sem__law_store [.ref h, .int n] (mset M h o) P := by
  unfold sem__law_store b__law_store
  dsimp only
  walk_at "d"
  refine c_draw hv (by omega) (by omega) fun x1 o1 c0 c1 hv1 => ?_
  walk_at "d"
  refine c_anyI (ns := [0, 1, 4, x1, 40]) hv1 (by simp) (by simp) fun room o2 hl2 hv2 => ?_
  have l2 : 0 ≤ room ∧ room ≤ 40 := by
    simp only [List.mem_cons, List.not_mem_nil, or_false] at hl2
    omega
  walk_at "d"
  refine c_draw hv2 (by omega) (by omega) fun start o3 c2 c3 hv3 => ?_
  walk_at "d"
  refine c_draw hv3 (by omega) (by omega) fun x4 o4 c4 c5 hv4 => ?_
  walk_at "d"
  refine c_anyI (ns := [0, room, x4]) hv4 (by simp) (by simp) fun last o5 hl5 hv5 => ?_
  have l5 : 0 ≤ last ∧ last ≤ room := by
    simp only [List.mem_cons, List.not_mem_nil, or_false] at hl5
    omega
  walk_at "d"
  generalize hmm : (if decide ((n : Int) < 3) = true then (10 : Int) else 6) = many
  have hm : 0 < many ∧ many ≤ 10 := by
    split at hmm <;> omega
  refine c_draw hv5 (by omega) (by omega) fun into o6 i0 i1 hv6 => ?_
  walk_at "d"
  rw [hmm]
  walk_at "d"
  refine c_draw hv6 (by omega) (by omega) fun out o7 u0 u1 hv7 => ?_
  walk_at "d"
  refine i_mulT (by omega) (by omega) (by simp) ?_
  rw [List.flatten_replicate_singleton]
  walk_at "d"
  refine i_addT (by rw [List.length_replicate, sizeLine_eq]; simp only [List.length_cons, List.length_nil]; omega) ?_
  rw [store_sums hn.1]
  walk_at "d"
  refine c_store hn (by omega) (by omega) (by omega) (by omega) (by omega) ?_
  rw [store_thg]
  walk_at "d"
  refine i_mulT (by omega) (by omega) (by simp) ?_
  rw [List.flatten_replicate_singleton, Int.toNat_natCast]
  walk_at "d"
  have e2 : D.tup [.tup (List.replicate n (pr (0 - out) into)), .tup ((List.range n).map fun (k : Nat) => if (n : Int) - 1 ≤ (k : Int) then pr (last - start) (room - start) else pr (0 - start) (room - start))] = thg (storeR n start room into out last) := store_thg n start room into out last
  rw [e2]
  have hR : ∀ x ∈ storeR n start room into out last, 0 - out ≤ x.1 ∧ x.2.1 < 0 - out + ((into + 1 + out).toNat : Int) ∧ x.1 ≤ x.2.1 + 1 ∧ x.2.1 ≤ 9 ∧ -99 ≤ x.2.2.1 ∧ x.2.2.1 ≤ 99 ∧ -99 ≤ x.2.2.2 ∧ x.2.2.2 ≤ 99 ∧ -9 ≤ x.2.1 ∧ x.1 ≤ 9 := by
    intro x hx
    obtain ⟨k, _, rfl⟩ := List.mem_map.mp hx
    dsimp only
    refine ⟨Int.le_refl _, by omega, by omega, by omega, ?_, ?_, by omega, by omega, by omega, by omega⟩ <;> split <;> omega
  refine c_is (shw_thg (by simp [storeR]; omega) fun x hx => by have := hR x hx; omega) ?_
  walk_at "d"
  refine c_ef rfl ?_
  walk_at "d"
  refine c_d (fun g3 => ?_) fun g3 => ?_
  · walk_at "d"
    rw [mcut_mset]
    exact q _ hv7
  walk_at "d"
  intro p hp
  walk_at "d"
  refine c_rows (m := (into + 1 + out).toNat) (by omega) (by omega) (by omega) (fun k hk => pow_bd (by omega) (by omega)) ?_
  walk_at "d"
  refine for_all (L := rowsK (am (0 - out) (into + 1 + out).toNat) n) (enc := tupI) (fun q ρ M' => M' = mset (mset M h o7) p (.lst ((q.filter (keepStore n start last room)).map tupI)) ∧ ∃ x5 x6 x7 x8 x11 x13, ρ = [some (.ref h), some (.int n), some (.int room), some (.int start), some (.int last), x5, x6, x7, x8, some (thg (storeR n start room into out last)), some (.ref p), x11, none, x13, none]) ?_ (fun _ _ _ _ => rfl) ?_ ?_
  · exact ⟨rfl, _, _, _, _, none, none, rfl⟩
  · rintro q1 row r1 ρ M' e ⟨rfl, x5, x6, x7, x8, x11, x13, rfl⟩ N hN
    have hl := app_len e
    rw [rowsK_len, am_len] at hl
    have hz := pow_bd (m := (into + 1 + out).toNat) (k := n) (by omega) (by omega)
    have hf := List.length_filter_le (keepStore n start last room) q1
    have hrow := (rowsK_mem (l := am (0 - out) (into + 1 + out).toNat) (k := n) (row := row) (by rw [e]; simp)).1
    walk_at "d"
    refine lc_rng (n := n) (fun k => .int (start + pre row k)) (by rw [sizeLine_eq]; omega) (fun _ => trivial) (fun k hk M Q q => ?_) ?_
    · walk_at "d"
      rw [cut_to (by omega), ← List.map_take, show ((k : Int) + 1).toNat = k + 1 by omega]
      walk_at "d"
      exact q
    have e3 : ((List.range n).map fun (k : Nat) => D.int (start + pre row k)) = (conts n start row).map .int := by
      unfold conts
      rw [List.map_map]
      rfl
    rw [e3]
    have hcl : (conts n start row).length = n := by simp [conts]
    walk_at "d"
    refine lc_map (L := conts n start row) (enc := .int) (fun z => .bl (decide (0 ≤ z) && decide (z ≤ room))) (by rw [sizeLine_eq]; omega) ?_ (fun z hz M Q q => ?_) ?_
    · exact fun _ _ _ => rfl
    · walk_at "d"
      exact q
    walk_at "d"
    refine i_all (bs := (conts n start row).map fun z => decide (0 ≤ z) && decide (z ≤ room)) (by rw [List.map_map]; rfl) ?_
    walk_at "d"
    refine c_b (fun ha => ?_) fun ha => ?_
    · walk_at "d"
      refine i_atL (conts_end hn.1 hrow) ?_
      walk_at "d"
      refine c_d (fun hk => ?_) fun hk => ?_
      · have hk : keepStore n start last room row = true := by
          unfold keepStore
          rw [ha, decide_eq_true hk]
          rfl
        walk_at "d"
        refine i_apK (mset_eq _ _ _) (by rw [List.length_map, sizeLine_eq]; omega) (hN _ _ ⟨?_, x5, x6, x7, x8, some (tupI row), some (.lst ((conts n start row).map .int)), rfl⟩)
        rw [mset_mset, filter_snoc, if_pos hk, List.map_append]
        rfl
      · have hk : keepStore n start last room row = false := by
          unfold keepStore
          rw [decide_eq_false hk, Bool.and_false]
        walk_at "d"
        refine hN _ _ ⟨?_, x5, x6, x7, x8, some (tupI row), some (.lst ((conts n start row).map .int)), rfl⟩
        rw [filter_snoc, if_neg (by simp [hk])]
    · have hk : keepStore n start last room row = false := by
        unfold keepStore
        rw [ha, Bool.false_and]
      walk_at "d"
      refine hN _ _ ⟨?_, x5, x6, x7, x8, some (tupI row), some (.lst ((conts n start row).map .int)), rfl⟩
      rw [filter_snoc, if_neg (by simp [hk])]
  · rintro ρ M' ⟨rfl, x5, x6, x7, x8, x11, x13, rfl⟩
    walk_at "d"
    have hlen : (storeR n start room into out last).length = n := by simp [storeR]
    refine c_plans_keep (lo := 0 - out) (m := (into + 1 + out).toNat) (keep := keepStore n start last room) (fun x hx => by have := hR x hx; omega) (by omega) (by omega) (by omega) (by omega) (fun row h1 h2 => store_keep (by omega) (by omega) (by omega) (by omega) (fun a ha => by have := h2 a ha; omega)) ?_
    rw [hlen]
    walk_at "d"
    refine i_eqLs rfl (pdT_ref (mset_eq _ _ _)) (Shw.rows (lo := -9) (hi := 9) (by omega) (fun r hr a ha => by
      have := am_mem ((rowsK_mem (List.mem_filter.mp hr).1).2 a ha)
      omega) (w := n) (fun r hr => Nat.le_of_eq (rowsK_mem (List.mem_filter.mp hr).1).1)) ?_
    rw [mcut_new (mset_none hp), mcut_mset]
    exact q _ hv7
end
end LK10
local macro_rules | `(tactic| walk_at "d1") => `(tactic| (with_reducible apply DL.i_ifI); (intro PB hP; walk_at "d"; exact hP); (intro _ PB hP; walk_at "d"; exact hP); (intro _ PB hP; walk_at "d"; exact hP))
namespace LK10
open PySem L2 DL
section
variable {M : Mem} {P : D → Mem → Prop} {h : Addr} {o : MO}
/-- a comprehension of draws -/
theorem lc_hand {te : DE} {ρ0 : Rho} {p : Addr} {lo hi : Int} {sl : Nat} {K : Mem → Prop} (hp : mset M h o p = none)
    (hstep : ∀ d o1 L, HandV o1 → ∀ Q : D → Mem → Prop, (∀ z o', lo ≤ z → z ≤ hi → HandV o' → Q (.int z) (mset (mset M h o') p L)) → te (ρ0.set sl (some d)) (mset (mset M h o1) p L) Q) :
    ∀ (items : List D) (acc : List Int) (o1 : MO), acc.length + items.length ≤ 1000 → (∀ i ∈ acc, lo ≤ i ∧ i ≤ hi) → HandV o1 →
      (∀ (ns : List Int) o', ns.length = acc.length + items.length → (∀ i ∈ ns, lo ≤ i ∧ i ≤ hi) → HandV o' → K (mset (mset M h o') p (.lst (ns.map .int)))) →
      lcGo p (fun _ => True) (dgName sl) dYes te ρ0 items (mset (mset M h o1) p (.lst (acc.map .int))) K
  | [], acc, o1, hz, hb, hv, hK => ⟨trivial, hK acc o1 rfl hb hv⟩
  | d :: r, acc, o1, hz, hb, hv, hK => by
    refine ⟨trivial, ?_⟩
    refine i_gname (i_yes ?_)
    simp only [if_true]
    refine hstep d o1 _ hv _ fun z o' z0 z1 hv' => ?_
    simp only [List.length_cons] at hz
    refine ⟨acc.map .int, mset_eq _ _ _, by rw [List.length_map, sizeLine_eq]; omega, ?_⟩
    rw [mset_mset]
    have e : acc.map D.int ++ [.int z] = (acc ++ [z]).map .int := by rw [List.map_append]; rfl
    rw [e]
    refine lc_hand hp hstep r (acc ++ [z]) o' (by simp; omega) (fun i hi => ?_) hv' fun ns o2 h1 h2 h3 => hK ns o2 (by simp at h1 ⊢; omega) h2 h3
    rcases List.mem_append.mp hi with hi | hi
    · exact hb i hi
    · simp only [List.mem_cons, List.not_mem_nil, or_false] at hi
      omega
theorem ne_of_none {p : Addr} (hp : mset M h o p = none) : h ≠ p := fun e => by
  subst e
  rw [mset_eq] at hp
  cases hp
theorem draw_in {p : Addr} {L o1 : MO} {many : Int} (hp : mset M h o p = none) (hv : HandV o1) (h0 : 0 < many) (h1 : many < 1000000) (q : ∀ z o', 0 ≤ z → z < many → HandV o' → P (.int z) (mset (mset M h o') p L)) : sem__law_draw [.ref h, .int many] (mset (mset M h o1) p L) P := by
  have hne := ne_of_none hp
  refine draw_ok (o := o1) (by rw [mset_ne hne, mset_eq]) hv h0 (by omega) fun n o' a b c => ?_
  rw [mset_comm _ _ _ hne.symm, mset_mset]
  exact q n o' a b c
theorem cut_pre (ns : List Int) (k : Nat) : cutD (ns.map D.int) none (some ((k : Int) + 1)) = (ns.take (k + 1)).map .int := by
  rw [cut_to (by omega), ← List.map_take, show ((k : Int) + 1).toNat = k + 1 by omega]
def boilR (n : Nat) (start low high rate : Int) (ns : List Int) : List (Int × Int × Int × Int) := (List.range n).map fun k => (0, rate, low - start + pre ns k, high - start + pre ns k)
theorem boil_thg (n : Nat) (start low high rate : Int) (ns : List Int) : D.tup [.tup (List.replicate n (pr 0 rate)), .tup ((List.range n).map fun k => pr (low - start + pre ns k) (high - start + pre ns k))] = thg (boilR n start low high rate ns) := by
  unfold thg boilR
  rw [List.map_map, List.map_map, rep_map]
  rfl
def stepB (low high : Int) (s : Int × Bool) (z : Int × Int) : Int × Bool := (s.1 + z.1 - z.2, s.2 && (decide (low ≤ s.1 + z.1 - z.2) && decide (s.1 + z.1 - z.2 ≤ high)))
def keepBoil (low high start : Int) (ns row : List Int) : Bool := ((row.zip ns).foldl (stepB low high) (start, true)).2
theorem boil_keep {n : Nat} {low high start rate : Int} {ns : List Int} (hn : 1 ≤ n ∧ n ≤ 3) (hs : ns.length = n) {row : List Int} (hl : row.length = n) (hr : ∀ a ∈ row, 0 ≤ a ∧ a ≤ rate) :
    okR (boilR n start low high rate ns) row 0 = keepBoil low high start ns row := by
  rw [Bool.eq_iff_iff]
  obtain rfl | rfl | rfl : n = 1 ∨ n = 2 ∨ n = 3 := by omega
  · obtain ⟨a, rfl⟩ := row1 hl
    obtain ⟨x, rfl⟩ := row1 hs
    have ha := hr a (by simp)
    simp [boilR, okR, okA, keepBoil, stepB, pre, List.range_succ]
    omega
  · obtain ⟨a, b, rfl⟩ := row2 hl
    obtain ⟨x, y, rfl⟩ := row2 hs
    have ha := hr a (by simp)
    have hb := hr b (by simp)
    simp [boilR, okR, okA, keepBoil, stepB, pre, List.range_succ]
    omega
  · obtain ⟨a, b, c, rfl⟩ := row3 hl
    obtain ⟨x, y, z, rfl⟩ := row3 hs
    have ha := hr a (by simp)
    have hb := hr b (by simp)
    have hc := hr c (by simp)
    simp [boilR, okR, okA, keepBoil, stepB, pre, List.range_succ]
    omega
theorem sum_bd {lo hi : Int} : ∀ {l : List Int}, (∀ i ∈ l, lo ≤ i ∧ i ≤ hi) → l.length * lo ≤ l.sum ∧ l.sum ≤ l.length * hi
  | [], _ => by simp
  | x :: r, hb => by
    have h1 := hb x List.mem_cons_self
    have h2 := sum_bd (l := r) fun i hi => hb i (List.mem_cons_of_mem _ hi)
    simp only [List.sum_cons, List.length_cons, Int.natCast_add, Int.add_mul]
    omega
theorem pre_bd {ns : List Int} {lo hi : Int} (h0 : lo ≤ 0) (h9 : 0 ≤ hi) (hb : ∀ i ∈ ns, lo ≤ i ∧ i ≤ hi) (k : Nat) : ns.length * lo ≤ pre ns k ∧ pre ns k ≤ ns.length * hi := by
  unfold pre
  have h1 := sum_bd (l := ns.take (k + 1)) fun i hi => hb i (List.mem_of_mem_take hi)
  have h2 : (ns.take (k + 1)).length ≤ ns.length := by rw [List.length_take]; omega
  have h3 : (ns.length : Int) * lo ≤ (ns.take (k + 1)).length * lo := Int.mul_le_mul_of_nonpos_right (by omega) h0
  have h4 : ((ns.take (k + 1)).length : Int) * hi ≤ ns.length * hi := Int.mul_le_mul_of_nonneg_right (by omega) h9
  omega
theorem zip_enc : ∀ (a b : List Int), zipD (a.map .int) (b.map .int) = (a.zip b).map fun z => .tup [.int z.1, .int z.2]
  | [], _ => by simp [zipD]
  | _ :: _, [] => by simp [zipD]
  | x :: a, y :: b => by
    have := zip_enc a b
    simp only [zipD, List.map_cons, List.zipWith_cons_cons, List.zip_cons_cons] at this ⊢
    rw [this]
set_option maxHeartbeats 1000000 in
theorem ok_boiler {n : Nat} (hn : 1 ≤ n ∧ n ≤ 6) (hv : HandV o) (q : ∀ o', HandV o' → P (.bl true) (mset M h o')) : sem__law_boiler [.ref h, .int n] (mset M h o) P := by
  unfold sem__law_boiler b__law_boiler
  dsimp only
  walk_at "d"
  refine c_draw hv (by omega) (by omega) fun low o1 c0 c1 hv1 => ?_
  walk_at "d"
  generalize hmn : (if 40 - low < 3 then 40 - low else 3) = mn
  refine c_anyI (ns := [0, mn, 40 - low]) hv1 (by simp) (by simp) fun x2 o2 hl2 hv2 => ?_
  have l2 : 0 ≤ x2 ∧ x2 ≤ 40 - low := by
    simp only [List.mem_cons, List.not_mem_nil, or_false] at hl2
    split at hmn <;> omega
  generalize hhi : low + x2 = high
  walk_at "d"
  refine c_draw hv2 (by omega) (by omega) fun x3 o3 c2 c3 hv3 => ?_
  rw [hhi]
  walk_at "d"
  refine c_anyI (ns := [low, high, x3]) hv3 (by simp) (by simp) fun start o4 hl4 hv4 => ?_
  have l4 : 0 ≤ start ∧ start ≤ 40 := by
    simp only [List.mem_cons, List.not_mem_nil, or_false] at hl4
    omega
  walk_at "d"
  refine c_draw hv4 (by omega) (by omega) fun rate o5 r0 r1 hv5 => ?_
  walk_at "d"
  intro p hp
  refine lc_hand (o := o5) (lo := 0) (hi := 9) hp ?_ _ [] o5 (by simp [rangeD]; omega) (fun i hi => by cases hi) hv5 ?_
  · intro d o1 L hv1 Q hQ
    walk_at "d"
    refine draw_in hp hv1 (by omega) (by omega) fun z o' a b c => hQ z o' a (by omega) c
  intro ns o7 hns hb hv7
  replace hns : ns.length = n := by simpa [rangeD] using hns
  refine i_fzR (mset_eq _ _ _) ?_
  rw [mdel_new (mset_none hp)]
  walk_at "d"
  refine lc_rng (n := n) (fun k => .int (pre ns k)) (by rw [sizeLine_eq]; omega) (fun _ => trivial) (fun k hk M Q q => ?_) ?_
  · walk_at "d"
    rw [cut_pre]
    walk_at "d"
    exact q
  have e3 : ((List.range n).map fun (k : Nat) => D.int (pre ns k)) = ((List.range n).map fun k => pre ns k).map .int := by
    rw [List.map_map]
    rfl
  rw [e3]
  walk_at "d"
  refine lc_map (L := (List.range n).map fun k => pre ns k) (enc := .int) (fun z => pr (low - start + z) (high - start + z)) (by rw [List.length_map, List.length_range, sizeLine_eq]; omega) ?_ (fun z hz M Q q => ?_) ?_
  · exact fun _ _ _ => rfl
  · walk_at "d"
    exact q
  walk_at "d"
  refine c_boiler hns hb hn (by omega) (by omega) (by omega) ?_
  rw [boil_thg]
  walk_at "d"
  refine i_mulT (by omega) (by omega) (by simp) ?_
  rw [List.flatten_replicate_singleton, Int.toNat_natCast]
  walk_at "d"
  have e2 : D.tup [.tup (List.replicate n (pr 0 rate)), .tup (((List.range n).map fun k => pre ns k).map fun z => pr (low - start + z) (high - start + z))] = thg (boilR n start low high rate ns) := by
    rw [List.map_map]
    exact boil_thg n start low high rate ns
  rw [e2]
  have hR : ∀ x ∈ boilR n start low high rate ns, 0 ≤ x.1 ∧ x.2.1 < 0 + ((rate + 1).toNat : Int) ∧ x.1 ≤ x.2.1 + 1 ∧ x.2.1 ≤ 9 ∧ -99 ≤ x.2.2.1 ∧ x.2.2.1 ≤ 99 ∧ -99 ≤ x.2.2.2 ∧ x.2.2.2 ≤ 99 ∧ x.1 = 0 := by
    intro x hx
    obtain ⟨k, _, rfl⟩ := List.mem_map.mp hx
    have hpb := pre_bd (lo := 0) (hi := 9) (by omega) (by omega) hb k
    rw [hns] at hpb
    dsimp only
    refine ⟨Int.le_refl 0, ?_, ?_, ?_, ?_, ?_, ?_, ?_, rfl⟩ <;> omega
  refine c_is (shw_thg (by simp [boilR]; omega) fun x hx => by have := hR x hx; omega) ?_
  walk_at "d"
  refine c_ef rfl ?_
  walk_at "d"
  refine c_d (fun g3 => ?_) fun g3 => ?_
  · walk_at "d"
    rw [mcut_mset]
    exact q _ hv7
  walk_at "d"
  intro p hp
  walk_at "d"
  refine c_rows (m := (rate + 1).toNat) (by omega) (by omega) (by omega) (fun k hk => pow_bd (by omega) (by omega)) ?_
  walk_at "d"
  refine for_all (L := rowsK (am 0 (rate + 1).toNat) n) (enc := tupI) (fun q ρ M' => M' = mset (mset M h o7) p (.lst ((q.filter (keepBoil low high start ns)).map tupI)) ∧ ∃ x6 x8 x9 x10 x13 x14 x15 x16, ρ = [some (.ref h), some (.int n), some (.int low), some (.int high), some (.int start), some (.int rate), x6, some (.tup (ns.map .int)), x8, x9, x10, some (thg (boilR n start low high rate ns)), some (.ref p), x13, x14, x15, x16]) ?_ (fun _ _ _ _ => rfl) ?_ ?_
  · exact ⟨rfl, none, _, none, _, none, none, none, none, rfl⟩
  · rintro q1 row r1 ρ M' e ⟨rfl, x6, x8, x9, x10, x13, x14, x15, x16, rfl⟩ N hN
    have hl := app_len e
    rw [rowsK_len, am_len] at hl
    have hz := pow_bd (m := (rate + 1).toNat) (k := n) (by omega) (by omega)
    have hf := List.length_filter_le (keepBoil low high start ns) q1
    have hrow := (rowsK_mem (l := am 0 (rate + 1).toNat) (k := n) (row := row) (by rw [e]; simp)).1
    walk_at "d"
    rw [zip_enc]
    refine for_all (L := row.zip ns) (enc := fun z => .tup [.int z.1, .int z.2]) (fun q2 ρ M2 => M2 = mset (mset M h o7) p (.lst ((q1.filter (keepBoil low high start ns)).map tupI)) ∧ ∃ x9 x16, ρ = [some (.ref h), some (.int n), some (.int low), some (.int high), some (.int start), some (.int rate), x6, some (.tup (ns.map .int)), x8, x9, x10, some (thg (boilR n start low high rate ns)), some (.ref p), some (tupI row), some (.int (q2.foldl (stepB low high) (start, true)).1), some (.bl (q2.foldl (stepB low high) (start, true)).2), x16]) ?_ ?_ ?_ ?_
    · exact ⟨rfl, x9, x16, rfl⟩
    · exact fun _ _ _ _ => ⟨rfl, rfl⟩
    · rintro q2 z r2 ρ M2 e2 ⟨rfl, x9, x16, rfl⟩ N2 hN2
      walk_at "d"
      refine hN2 _ _ ⟨rfl, some (.int z.2), some (.int z.1), ?_⟩
      rw [List.foldl_append]
      rfl
    · rintro ρ M2 ⟨rfl, x9, x16, rfl⟩
      walk_at "d"
      refine c_b (b := keepBoil low high start ns row) (fun hk => ?_) fun hk => ?_
      · walk_at "d"
        refine i_exL (mset_eq _ _ _) (by rw [List.length_map, sizeLine_eq]; simp only [List.length_cons, List.length_nil]; omega) (hN _ _ ⟨?_, x6, x8, x9, x10, some (tupI row), _, _, x16, rfl⟩)
        rw [mset_mset, filter_snoc, if_pos hk, List.map_append]
        rfl
      · walk_at "d"
        refine i_exL (mset_eq _ _ _) (by rw [List.length_map, sizeLine_eq]; simp only [List.length_cons, List.length_nil]; omega) (hN _ _ ⟨?_, x6, x8, x9, x10, some (tupI row), _, _, x16, rfl⟩)
        rw [mset_mset, filter_snoc, if_neg (by simp [hk]), List.append_nil]
  · rintro ρ M' ⟨rfl, x6, x8, x9, x10, x13, x14, x15, x16, rfl⟩
    walk_at "d"
    have hlen : (boilR n start low high rate ns).length = n := by simp [boilR]
    refine c_plans_keep (lo := 0) (m := (rate + 1).toNat) (keep := keepBoil low high start ns) (fun x hx => by have := hR x hx; omega) (by omega) (by omega) (by omega) (by omega) (fun row h1 h2 => boil_keep (by omega) hns (by omega) (fun a ha => by have := h2 a ha; omega)) ?_
    rw [hlen]
    walk_at "d"
    refine i_eqLs rfl (pdT_ref (mset_eq _ _ _)) (Shw.rows (lo := 0) (hi := 9) (by omega) (fun r hr a ha => by
      have := am_mem ((rowsK_mem (List.mem_filter.mp hr).1).2 a ha)
      omega) (w := n) (fun r hr => Nat.le_of_eq (rowsK_mem (List.mem_filter.mp hr).1).1)) ?_
    rw [mcut_new (mset_none hp), mcut_mset]
    exact q _ hv7
end
end LK10
namespace LK10
open PySem L2 DL
section
variable {M : Mem} {P : D → Mem → Prop} {h : Addr} {o : MO}
def plainR (ns : List Int) : List (Int × Int × Int × Int) := (List.range ns.length).map fun k => (ns.getD k 0, ns.getD k 0, pre ns k, pre ns k)
theorem getD_range (ns : List Int) : (List.range ns.length).map (fun k => ns.getD k 0) = ns := by
  refine List.ext_getElem (by simp) fun i h1 h2 => ?_
  simp [List.getD_eq_getElem?_getD, h2]
theorem plainR_snoc (ns : List Int) (x : Int) : plainR (ns ++ [x]) = plainR ns ++ [(x, x, ns.sum + x, ns.sum + x)] := by
  unfold plainR
  rw [List.length_append, List.length_singleton, List.range_succ, List.map_append]
  congr 1
  · refine List.map_congr_left fun k hk => ?_
    have hk := List.mem_range.mp hk
    have e1 : (ns ++ [x]).getD k 0 = ns.getD k 0 := by
      simp [List.getD_eq_getElem?_getD, List.getElem?_append_left hk]
    have e2 : pre (ns ++ [x]) k = pre ns k := by
      unfold pre
      rw [List.take_append_of_le_length (by omega)]
    rw [e1, e2]
  · have e2 : pre (ns ++ [x]) ns.length = ns.sum + x := pre_at ns x []
    simp only [List.map_cons, List.map_nil]
    rw [e2]
    simp [List.getD_eq_getElem?_getD]
theorem am_one (x : Int) : am x (x + 1 - x).toNat = [x] := by
  rw [show (x + 1 - x).toNat = 1 by omega]
  simp [am]
theorem plain_plans : ∀ ns : List Int, plansK (plainR ns) = [(ns, ns.sum)] := by
  refine rev_ind rfl fun ns x ih => ?_
  rw [plainR_snoc, plansK_snoc, ih]
  unfold stepP
  simp only [List.flatMap_cons, List.flatMap_nil, List.append_nil, am_one]
  rw [List.filter_cons_of_pos (by simp), List.filter_nil]
  simp [List.sum_append]
theorem step_one {r s : Int × Int} (h : r.2 = r.1) : ∀ F : List (List Int × Int), (stepP r s F).length ≤ F.length
  | [] => Nat.le_refl _
  | x :: F => by
    have ih := step_one (s := s) h F
    unfold stepP at ih ⊢
    rw [List.flatMap_cons, List.length_append, List.length_map, List.length_cons]
    have h1 := List.length_filter_le (fun a => decide (s.1 ≤ x.2 + a) && decide (x.2 + a ≤ s.2)) (am r.1 (r.2 + 1 - r.1).toNat)
    rw [am_len] at h1
    omega
theorem plans_one : ∀ rs : List (Int × Int × Int × Int), (∀ x ∈ rs, x.2.1 = x.1) → (plansK rs).length ≤ 1 := by
  refine rev_ind (fun _ => Nat.le_refl _) fun rs x ih h => ?_
  rw [plansK_snoc]
  exact Nat.le_trans (step_one (h x (by simp)) _) (ih fun y hy => h y (List.mem_append_left _ hy))
theorem plain_thg {n : Nat} {ns : List Int} (hl : ns.length = n) : D.tup [.tup (ns.map fun z => pr z z), .tup ((List.range n).map fun k => pr (pre ns k) (pre ns k))] = thg (plainR ns) := by
  unfold thg plainR
  rw [List.map_map, List.map_map, hl]
  have e : (List.range n).map ((fun x : Int × Int × Int × Int => pr x.1 x.2.1) ∘ fun k => (ns.getD k 0, ns.getD k 0, pre ns k, pre ns k)) = ((List.range ns.length).map fun k => ns.getD k 0).map fun z => pr z z := by
    rw [List.map_map, hl]
    rfl
  rw [e, getD_range]
  rfl
set_option maxHeartbeats 1000000 in
theorem ok_plain {n : Nat} (hn : 1 ≤ n ∧ n ≤ 6) (hv : HandV o) (q : ∀ o', HandV o' → P (.bl true) (mset M h o')) : sem__law_plain [.ref h, .int n] (mset M h o) P := by
  unfold sem__law_plain b__law_plain
  dsimp only
  walk_at "d"
  intro p hp
  refine lc_hand (o := o) (lo := -9) (hi := 9) hp ?_ _ [] o (by simp [rangeD]; omega) (fun i hi => by cases hi) hv ?_
  · intro d o1 L hv1 Q hQ
    walk_at "d"
    refine draw_in hp hv1 (by omega) (by omega) fun z o' a b c => ?_
    walk_at "d"
    exact hQ _ o' (by omega) (by omega) c
  intro ns o7 hns hb hv7
  replace hns : ns.length = n := by simpa [rangeD] using hns
  refine i_fzR (mset_eq _ _ _) ?_
  rw [mdel_new (mset_none hp)]
  walk_at "d"
  refine lc_rng (n := n) (fun k => .int (pre ns k)) (by rw [sizeLine_eq]; omega) (fun _ => trivial) (fun k hk M Q q => ?_) ?_
  · walk_at "d"
    rw [cut_pre]
    walk_at "d"
    exact q
  have e3 : ((List.range n).map fun (k : Nat) => D.int (pre ns k)) = ((List.range n).map fun k => pre ns k).map .int := by
    rw [List.map_map]
    rfl
  rw [e3]
  walk_at "d"
  refine lc_map (L := ns) (enc := .int) (fun z => pr z z) (by rw [sizeLine_eq]; omega) ?_ (fun z hz M Q q => ?_) ?_
  · exact fun _ _ _ => rfl
  · walk_at "d"
    exact q
  walk_at "d"
  refine lc_map (L := (List.range n).map fun k => pre ns k) (enc := .int) (fun z => pr z z) (by rw [List.length_map, List.length_range, sizeLine_eq]; omega) ?_ (fun z hz M Q q => ?_) ?_
  · exact fun _ _ _ => rfl
  · walk_at "d"
    exact q
  walk_at "d"
  have e2 : D.tup [.tup (ns.map fun z => pr z z), .tup (((List.range n).map fun k => pre ns k).map fun z => pr z z)] = thg (plainR ns) := by
    rw [List.map_map]
    exact plain_thg hns
  rw [e2]
  have hR : ∀ x ∈ plainR ns, -9 ≤ x.1 ∧ x.1 ≤ 9 ∧ x.2.1 = x.1 ∧ -99 ≤ x.2.2.1 ∧ x.2.2.1 ≤ 99 ∧ -99 ≤ x.2.2.2 ∧ x.2.2.2 ≤ 99 := by
    intro x hx
    obtain ⟨k, hk, rfl⟩ := List.mem_map.mp hx
    have hk := List.mem_range.mp hk
    have hpb := pre_bd (lo := -9) (hi := 9) (by omega) (by omega) hb k
    rw [hns] at hpb
    have hg : ns.getD k 0 = ns[k] := by simp [List.getD_eq_getElem?_getD, hk]
    have hkb := hb ns[k] (List.getElem_mem _)
    dsimp only
    rw [hg]
    omega
  have hlen : (plainR ns).length = n := by simp [plainR, hns]
  have hsh : Shw (thg (plainR ns)) 60 1048576 := shw_thg (by omega) fun x hx => by have := hR x hx; omega
  refine c_plain hns hn hb ?_
  rw [plain_thg hns]
  walk_at "d"
  refine c_is hsh ?_
  walk_at "d"
  refine c_plans (by omega) (fun x hx => by have := hR x hx; omega) (fun q x r e => ?_) ?_
  · refine Nat.le_trans (plans_one (q ++ [x]) fun y hy => (hR y ?_).2.2.1) (by decide)
    rw [e]
    simp only [List.mem_append, List.mem_cons, List.not_mem_nil, or_false] at hy ⊢
    rcases hy with hy | hy
    · exact .inl hy
    · exact .inr (.inl hy)
  rw [plain_plans]
  walk_at "d"
  refine i_eqLs (xs := [tupI ns]) rfl rfl (Shw.rows (l := [ns]) (lo := -9) (hi := 9) (by omega) (fun r hr a ha => by
    simp only [List.mem_cons, List.not_mem_nil, or_false] at hr
    subst hr
    exact hb a ha) (w := n) (fun r hr => by
    simp only [List.mem_cons, List.not_mem_nil, or_false] at hr
    subst hr
    omega)) ?_
  rw [mcut_mset]
  exact q _ hv7
end
end LK10
namespace LK10
open PySem L2 DL
theorem law_true (ns : List Int) (hz : ns.length ≤ 63) : sem_law [.scr ns] mnil fun d _ => d = .bl true := by
  unfold sem_law b_law
  dsimp only
  walk_at "d"
  refine c_hand (by omega) fun h o _ hv => ?_
  walk_at "d"
  refine c_car (n := 2) (by omega) (by omega) (by omega) (by omega) (by omega) (by omega) ?_
  rw [car_thg]
  walk_at "d"
  have e1 : D.tup [.tup [.tup [.int 0, .int 3], .tup [.int 0, .int 3]], .tup [.tup [.int 0, .int 3], .tup [.int 3, .int 3]]] = thg (carR 2 0 2 3 3 3) := by
    simp [thg, carR, List.range_succ]
  rw [e1]
  refine i_neX (wt := 1048576) (shw_thg (by decide) fun x hx => ?_) ?_
  · obtain ⟨k, _, rfl⟩ := List.mem_map.mp hx
    dsimp only
    refine ⟨by omega, by omega, ?_, ?_, ?_, ?_, by omega, by omega⟩ <;> split <;> omega
  walk_at "d"
  refine c_store (n := 1) (by omega) (by omega) (by omega) (by omega) (by omega) (by omega) ?_
  rw [store_thg]
  walk_at "d"
  have e2 : D.tup [.tup [.tup [.int (-1), .int 4]], .tup [.tup [.int 1, .int 3]]] = thg (storeR 1 2 5 4 1 3) := by
    simp [thg, storeR, List.range_succ]
  rw [e2]
  refine i_neX (wt := 1048576) (shw_thg (by decide) fun x hx => ?_) ?_
  · obtain ⟨k, _, rfl⟩ := List.mem_map.mp hx
    dsimp only
    refine ⟨by omega, by omega, by omega, by omega, ?_, ?_, by omega, by omega⟩ <;> split <;> omega
  walk_at "d"
  rw [rangeD_map]
  refine for_all (L := List.range (Int.toNat 3)) (enc := fun (k : Nat) => .int (0 + (k : Int))) (fun q ρ M' => ∃ o' x2 x3, HandV o' ∧ M' = mset mnil h o' ∧ ρ = [some (.scr ns), some (.ref h), x2, x3]) ?_ (fun _ _ _ _ => trivial) ?_ ?_
  · exact ⟨o, none, none, hv, rfl, rfl⟩
  · rintro q k r ρ M' _ ⟨o1, x2, x3, hv1, rfl, rfl⟩ N hN
    walk_at "d"
    refine c_anyI (ns := [1, 2, 3, 3, 4, 6]) hv1 (by simp) (by simp) fun z o2 hl2 hv2 => ?_
    obtain ⟨n, rfl, hn⟩ : ∃ n : Nat, z = n ∧ 1 ≤ n ∧ n ≤ 6 := by
      simp only [List.mem_cons, List.not_mem_nil, or_false] at hl2
      exact ⟨z.toNat, by omega, by omega, by omega⟩
    walk_at "d"
    refine ok_car hn hv2 fun o3 hv3 => ?_
    walk_at "d"
    refine c_ef rfl ?_
    walk_at "d"
    refine ok_boiler hn hv3 fun o4 hv4 => ?_
    walk_at "d"
    refine c_ef rfl ?_
    walk_at "d"
    refine ok_store hn hv4 fun o5 hv5 => ?_
    walk_at "d"
    refine c_ef rfl ?_
    walk_at "d"
    refine ok_run hn hv5 fun o6 hv6 => ?_
    walk_at "d"
    refine c_ef rfl ?_
    walk_at "d"
    refine ok_plain hn hv6 fun o7 hv7 => ?_
    walk_at "d"
    refine c_ef rfl ?_
    walk_at "d"
    exact hN _ _ ⟨o7, _, _, hv7, rfl, rfl⟩
  · rintro ρ M' ⟨o1, x2, x3, hv1, rfl, rfl⟩
    walk_at "d"
    rfl
end LK10
/-! the end of the law K10 -/
namespace LK10
open PySem PySem.Spec PyProof.Rows L2 DL
theorem all_mk {K : PySem.W.Frag} {h : Heap} {mg : Str → Option Value} (X : K.In h) (G : h.Ns mainGlobals mg) {f0 f1 f2 f3 f4 f5 f6 f7 f8 f9 f10 f11 f12 f13 f14 f15 f16 f17 f18 f19 f20 f21 f22 f23 f24 f25 f26 f27 f28 : Addr} {od0 an0 od1 an1 od2 an2 od3 an3 od4 an4 od5 an5 od6 an6 od7 an7 od8 an8 od9 an9 od10 an10 od11 an11 od12 an12 od13 an13 od14 an14 od15 an15 od16 an16 od17 an17 od18 an18 od19 an19 od20 an20 od21 an21 od22 an22 od23 an23 od24 an24 od25 an25 od26 an26 od27 an27 od28 an28 : Option Addr} {sl0 sl1 sl2 sl3 sl4 sl5 sl6 sl7 sl8 sl9 sl10 sl11 sl12 sl13 sl14 sl15 sl16 sl17 sl18 sl19 sl20 sl21 sl22 sl23 sl24 sl25 sl26 sl27 sl28 : Array (Option Value)} {oc0 kV0 dc0 pm0 cd0 ct0 oc1 kV1 dc1 pm1 cd1 ct1 oc2 kV2 dc2 pm2 cd2 ct2 oc3 kV3 dc3 pm3 cd3 ct3 oc4 kV4 dc4 pm4 cd4 ct4 oc5 kV5 dc5 pm5 cd5 ct5 oc6 kV6 dc6 pm6 cd6 ct6 oc7 kV7 dc7 pm7 cd7 ct7 oc8 kV8 dc8 pm8 cd8 ct8 oc9 kV9 dc9 pm9 cd9 ct9 oc10 kV10 dc10 pm10 cd10 ct10 oc11 kV11 dc11 pm11 cd11 ct11 oc12 kV12 dc12 pm12 cd12 ct12 oc13 kV13 dc13 pm13 cd13 ct13 oc14 kV14 dc14 pm14 cd14 ct14 oc15 kV15 dc15 pm15 cd15 ct15 oc16 kV16 dc16 pm16 cd16 ct16 oc17 kV17 dc17 pm17 cd17 ct17 oc18 kV18 dc18 pm18 cd18 ct18 oc19 kV19 dc19 pm19 cd19 ct19 oc20 kV20 dc20 pm20 cd20 ct20 oc21 kV21 dc21 pm21 cd21 ct21 oc22 kV22 dc22 pm22 cd22 ct22 oc23 kV23 dc23 pm23 cd23 ct23 oc24 kV24 dc24 pm24 cd24 ct24 oc25 kV25 dc25 pm25 cd25 ct25 oc26 kV26 dc26 pm26 cd26 ct26 oc27 kV27 dc27 pm27 cd27 ct27 oc28 kV28 dc28 pm28 cd28 ct28 u0 u1 u2 u3 u4 : Value}
    (a0 : PySem.W.nsIn K mainGlobals "is_integer" = some (some (.ref f0))) (l0 : K.lookup f0 = some ⟨oc0, od0, .func (PySem.W.fnOf "is_integer" "is_integer" (defArgs s_is_integer) (defBody s_is_integer) (defScope s_is_integer) .none kV0 dc0 pm0 an0 cd0 ct0), sl0⟩) (c0 : PySem.W.codeIn K cd0 "is_integer" = true) (k0 : PySem.W.keepIn K (.ref f0) = true)
    (a1 : PySem.W.nsIn K mainGlobals "is_tuple" = some (some (.ref f1))) (l1 : K.lookup f1 = some ⟨oc1, od1, .func (PySem.W.fnOf "is_tuple" "is_tuple" (defArgs s_is_tuple) (defBody s_is_tuple) (defScope s_is_tuple) .none kV1 dc1 pm1 an1 cd1 ct1), sl1⟩) (c1 : PySem.W.codeIn K cd1 "is_tuple" = true) (k1 : PySem.W.keepIn K (.ref f1) = true)
    (a2 : PySem.W.nsIn K mainGlobals "rated_between" = some (some (.ref f2))) (l2 : K.lookup f2 = some ⟨oc2, od2, .func (PySem.W.fnOf "rated_between" "rated_between" (defArgs s_rated_between) (defBody s_rated_between) (defScope s_rated_between) .none kV2 dc2 pm2 an2 cd2 ct2), sl2⟩) (c2 : PySem.W.codeIn K cd2 "rated_between" = true) (k2 : PySem.W.keepIn K (.ref f2) = true)
    (a3 : PySem.W.nsIn K mainGlobals "summed_from" = some (some (.ref f3))) (l3 : K.lookup f3 = some ⟨oc3, od3, .func (PySem.W.fnOf "summed_from" "summed_from" (defArgs s_summed_from) (defBody s_summed_from) (defScope s_summed_from) .none kV3 dc3 pm3 an3 cd3 ct3), sl3⟩) (c3 : PySem.W.codeIn K cd3 "summed_from" = true) (k3 : PySem.W.keepIn K (.ref f3) = true)
    (a4 : PySem.W.nsIn K mainGlobals "plain_of" = some (some (.ref f4))) (l4 : K.lookup f4 = some ⟨oc4, od4, .func (PySem.W.fnOf "plain_of" "plain_of" (defArgs s_plain_of) (defBody s_plain_of) (defScope s_plain_of) .none kV4 dc4 pm4 an4 cd4 ct4), sl4⟩) (c4 : PySem.W.codeIn K cd4 "plain_of" = true) (k4 : PySem.W.keepIn K (.ref f4) = true)
    (a5 : PySem.W.nsIn K mainGlobals "_law_hand" = some (some (.ref f5))) (l5 : K.lookup f5 = some ⟨oc5, od5, .func (PySem.W.fnOf "_law_hand" "_law_hand" (defArgs s__law_hand) (defBody s__law_hand) (defScope s__law_hand) .none kV5 dc5 pm5 an5 cd5 ct5), sl5⟩) (c5 : PySem.W.codeIn K cd5 "_law_hand" = true) (k5 : PySem.W.keepIn K (.ref f5) = true)
    (a6 : PySem.W.nsIn K mainGlobals "_law_draw" = some (some (.ref f6))) (l6 : K.lookup f6 = some ⟨oc6, od6, .func (PySem.W.fnOf "_law_draw" "_law_draw" (defArgs s__law_draw) (defBody s__law_draw) (defScope s__law_draw) .none kV6 dc6 pm6 an6 cd6 ct6), sl6⟩) (c6 : PySem.W.codeIn K cd6 "_law_draw" = true) (k6 : PySem.W.keepIn K (.ref f6) = true)
    (a7 : PySem.W.nsIn K mainGlobals "_law_is" = some (some (.ref f7))) (l7 : K.lookup f7 = some ⟨oc7, od7, .func (PySem.W.fnOf "_law_is" "_law_is" (defArgs s__law_is) (defBody s__law_is) (defScope s__law_is) .none kV7 dc7 pm7 an7 cd7 ct7), sl7⟩) (c7 : PySem.W.codeIn K cd7 "_law_is" = true) (k7 : PySem.W.keepIn K (.ref f7) = true)
    (a8 : PySem.W.nsIn K mainGlobals "_law_plans" = some (some (.ref f8))) (l8 : K.lookup f8 = some ⟨oc8, od8, .func (PySem.W.fnOf "_law_plans" "_law_plans" (defArgs s__law_plans) (defBody s__law_plans) (defScope s__law_plans) .none kV8 dc8 pm8 an8 cd8 ct8), sl8⟩) (c8 : PySem.W.codeIn K cd8 "_law_plans" = true) (k8 : PySem.W.keepIn K (.ref f8) = true)
    (a9 : PySem.W.nsIn K mainGlobals "_law_rows" = some (some (.ref f9))) (l9 : K.lookup f9 = some ⟨oc9, od9, .func (PySem.W.fnOf "_law_rows" "_law_rows" (defArgs s__law_rows) (defBody s__law_rows) (defScope s__law_rows) .none kV9 dc9 pm9 an9 cd9 ct9), sl9⟩) (c9 : PySem.W.codeIn K cd9 "_law_rows" = true) (k9 : PySem.W.keepIn K (.ref f9) = true)
    (a10 : PySem.W.nsIn K mainGlobals "is_within" = some (some (.ref f10))) (l10 : K.lookup f10 = some ⟨oc10, od10, .func (PySem.W.fnOf "is_within" "is_within" (defArgs s_is_within) (defBody s_is_within) (defScope s_is_within) .none kV10 dc10 pm10 an10 cd10 ct10), sl10⟩) (c10 : PySem.W.codeIn K cd10 "is_within" = true) (k10 : PySem.W.keepIn K (.ref f10) = true)
    (a11 : PySem.W.nsIn K mainGlobals "_law_any" = some (some (.ref f11))) (l11 : K.lookup f11 = some ⟨oc11, od11, .func (PySem.W.fnOf "_law_any" "_law_any" (defArgs s__law_any) (defBody s__law_any) (defScope s__law_any) .none kV11 dc11 pm11 an11 cd11 ct11), sl11⟩) (c11 : PySem.W.codeIn K cd11 "_law_any" = true) (k11 : PySem.W.keepIn K (.ref f11) = true)
    (a12 : PySem.W.nsIn K mainGlobals "are_integers" = some (some (.ref f12))) (l12 : K.lookup f12 = some ⟨oc12, od12, .func (PySem.W.fnOf "are_integers" "are_integers" (defArgs s_are_integers) (defBody s_are_integers) (defScope s_are_integers) .none kV12 dc12 pm12 an12 cd12 ct12), sl12⟩) (c12 : PySem.W.codeIn K cd12 "are_integers" = true) (k12 : PySem.W.keepIn K (.ref f12) = true)
    (a13 : PySem.W.nsIn K mainGlobals "is_hours" = some (some (.ref f13))) (l13 : K.lookup f13 = some ⟨oc13, od13, .func (PySem.W.fnOf "is_hours" "is_hours" (defArgs s_is_hours) (defBody s_is_hours) (defScope s_is_hours) .none kV13 dc13 pm13 an13 cd13 ct13), sl13⟩) (c13 : PySem.W.codeIn K cd13 "is_hours" = true) (k13 : PySem.W.keepIn K (.ref f13) = true)
    (a14 : PySem.W.nsIn K mainGlobals "is_rate" = some (some (.ref f14))) (l14 : K.lookup f14 = some ⟨oc14, od14, .func (PySem.W.fnOf "is_rate" "is_rate" (defArgs s_is_rate) (defBody s_is_rate) (defScope s_is_rate) .none kV14 dc14 pm14 an14 cd14 ct14), sl14⟩) (c14 : PySem.W.codeIn K cd14 "is_rate" = true) (k14 : PySem.W.keepIn K (.ref f14) = true)
    (a15 : PySem.W.nsIn K mainGlobals "is_room" = some (some (.ref f15))) (l15 : K.lookup f15 = some ⟨oc15, od15, .func (PySem.W.fnOf "is_room" "is_room" (defArgs s_is_room) (defBody s_is_room) (defScope s_is_room) .none kV15 dc15 pm15 an15 cd15 ct15), sl15⟩) (c15 : PySem.W.codeIn K cd15 "is_room" = true) (k15 : PySem.W.keepIn K (.ref f15) = true)
    (a16 : PySem.W.nsIn K mainGlobals "check_hours" = some (some (.ref f16))) (l16 : K.lookup f16 = some ⟨oc16, od16, .func (PySem.W.fnOf "check_hours" "check_hours" (defArgs s_check_hours) (defBody s_check_hours) (defScope s_check_hours) .none kV16 dc16 pm16 an16 cd16 ct16), sl16⟩) (c16 : PySem.W.codeIn K cd16 "check_hours" = true) (k16 : PySem.W.keepIn K (.ref f16) = true)
    (a17 : PySem.W.nsIn K mainGlobals "are_draws" = some (some (.ref f17))) (l17 : K.lookup f17 = some ⟨oc17, od17, .func (PySem.W.fnOf "are_draws" "are_draws" (defArgs s_are_draws) (defBody s_are_draws) (defScope s_are_draws) .none kV17 dc17 pm17 an17 cd17 ct17), sl17⟩) (c17 : PySem.W.codeIn K cd17 "are_draws" = true) (k17 : PySem.W.keepIn K (.ref f17) = true)
    (a18 : PySem.W.nsIn K mainGlobals "car_thing" = some (some (.ref f18))) (l18 : K.lookup f18 = some ⟨oc18, od18, .func (PySem.W.fnOf "car_thing" "car_thing" (defArgs s_car_thing) (defBody s_car_thing) (defScope s_car_thing) .none kV18 dc18 pm18 an18 cd18 ct18), sl18⟩) (c18 : PySem.W.codeIn K cd18 "car_thing" = true) (k18 : PySem.W.keepIn K (.ref f18) = true)
    (a19 : PySem.W.nsIn K mainGlobals "boiler_thing" = some (some (.ref f19))) (l19 : K.lookup f19 = some ⟨oc19, od19, .func (PySem.W.fnOf "boiler_thing" "boiler_thing" (defArgs s_boiler_thing) (defBody s_boiler_thing) (defScope s_boiler_thing) .none kV19 dc19 pm19 an19 cd19 ct19), sl19⟩) (c19 : PySem.W.codeIn K cd19 "boiler_thing" = true) (k19 : PySem.W.keepIn K (.ref f19) = true)
    (a20 : PySem.W.nsIn K mainGlobals "store_thing" = some (some (.ref f20))) (l20 : K.lookup f20 = some ⟨oc20, od20, .func (PySem.W.fnOf "store_thing" "store_thing" (defArgs s_store_thing) (defBody s_store_thing) (defScope s_store_thing) .none kV20 dc20 pm20 an20 cd20 ct20), sl20⟩) (c20 : PySem.W.codeIn K cd20 "store_thing" = true) (k20 : PySem.W.keepIn K (.ref f20) = true)
    (a21 : PySem.W.nsIn K mainGlobals "run_thing" = some (some (.ref f21))) (l21 : K.lookup f21 = some ⟨oc21, od21, .func (PySem.W.fnOf "run_thing" "run_thing" (defArgs s_run_thing) (defBody s_run_thing) (defScope s_run_thing) .none kV21 dc21 pm21 an21 cd21 ct21), sl21⟩) (c21 : PySem.W.codeIn K cd21 "run_thing" = true) (k21 : PySem.W.keepIn K (.ref f21) = true)
    (a22 : PySem.W.nsIn K mainGlobals "plain_thing" = some (some (.ref f22))) (l22 : K.lookup f22 = some ⟨oc22, od22, .func (PySem.W.fnOf "plain_thing" "plain_thing" (defArgs s_plain_thing) (defBody s_plain_thing) (defScope s_plain_thing) .none kV22 dc22 pm22 an22 cd22 ct22), sl22⟩) (c22 : PySem.W.codeIn K cd22 "plain_thing" = true) (k22 : PySem.W.keepIn K (.ref f22) = true)
    (a23 : PySem.W.nsIn K mainGlobals "_law_car" = some (some (.ref f23))) (l23 : K.lookup f23 = some ⟨oc23, od23, .func (PySem.W.fnOf "_law_car" "_law_car" (defArgs s__law_car) (defBody s__law_car) (defScope s__law_car) .none kV23 dc23 pm23 an23 cd23 ct23), sl23⟩) (c23 : PySem.W.codeIn K cd23 "_law_car" = true) (k23 : PySem.W.keepIn K (.ref f23) = true)
    (a24 : PySem.W.nsIn K mainGlobals "_law_boiler" = some (some (.ref f24))) (l24 : K.lookup f24 = some ⟨oc24, od24, .func (PySem.W.fnOf "_law_boiler" "_law_boiler" (defArgs s__law_boiler) (defBody s__law_boiler) (defScope s__law_boiler) .none kV24 dc24 pm24 an24 cd24 ct24), sl24⟩) (c24 : PySem.W.codeIn K cd24 "_law_boiler" = true) (k24 : PySem.W.keepIn K (.ref f24) = true)
    (a25 : PySem.W.nsIn K mainGlobals "_law_store" = some (some (.ref f25))) (l25 : K.lookup f25 = some ⟨oc25, od25, .func (PySem.W.fnOf "_law_store" "_law_store" (defArgs s__law_store) (defBody s__law_store) (defScope s__law_store) .none kV25 dc25 pm25 an25 cd25 ct25), sl25⟩) (c25 : PySem.W.codeIn K cd25 "_law_store" = true) (k25 : PySem.W.keepIn K (.ref f25) = true)
    (a26 : PySem.W.nsIn K mainGlobals "_law_run" = some (some (.ref f26))) (l26 : K.lookup f26 = some ⟨oc26, od26, .func (PySem.W.fnOf "_law_run" "_law_run" (defArgs s__law_run) (defBody s__law_run) (defScope s__law_run) .none kV26 dc26 pm26 an26 cd26 ct26), sl26⟩) (c26 : PySem.W.codeIn K cd26 "_law_run" = true) (k26 : PySem.W.keepIn K (.ref f26) = true)
    (a27 : PySem.W.nsIn K mainGlobals "_law_plain" = some (some (.ref f27))) (l27 : K.lookup f27 = some ⟨oc27, od27, .func (PySem.W.fnOf "_law_plain" "_law_plain" (defArgs s__law_plain) (defBody s__law_plain) (defScope s__law_plain) .none kV27 dc27 pm27 an27 cd27 ct27), sl27⟩) (c27 : PySem.W.codeIn K cd27 "_law_plain" = true) (k27 : PySem.W.keepIn K (.ref f27) = true)
    (a28 : PySem.W.nsIn K mainGlobals "law" = some (some (.ref f28))) (l28 : K.lookup f28 = some ⟨oc28, od28, .func (PySem.W.fnOf "law" "law" (defArgs s_law) (defBody s_law) (defScope s_law) .none kV28 dc28 pm28 an28 cd28 ct28), sl28⟩) (c28 : PySem.W.codeIn K cd28 "law" = true) (k28 : PySem.W.keepIn K (.ref f28) = true)
    (z0 : PySem.W.nsIn K mainGlobals "abs" = some none)
    (z1 : PySem.W.nsIn K mainGlobals "all" = some none)
    (z2 : PySem.W.nsIn K mainGlobals "bool" = some none)
    (z3 : PySem.W.nsIn K mainGlobals "enumerate" = some none)
    (z4 : PySem.W.nsIn K mainGlobals "int" = some none)
    (z5 : PySem.W.nsIn K mainGlobals "isinstance" = some none)
    (z6 : PySem.W.nsIn K mainGlobals "len" = some none)
    (z7 : PySem.W.nsIn K mainGlobals "min" = some none)
    (z8 : PySem.W.nsIn K mainGlobals "range" = some none)
    (z9 : PySem.W.nsIn K mainGlobals "repr" = some none)
    (z10 : PySem.W.nsIn K mainGlobals "sum" = some none)
    (z11 : PySem.W.nsIn K mainGlobals "tuple" = some none)
    (z12 : PySem.W.nsIn K mainGlobals "zip" = some none)
    (g0 : PySem.W.nsIn K mainGlobals "MOST_AMOUNT" = some (some u0)) (r0 : L2.RelV (.int 54) u0)
    (g1 : PySem.W.nsIn K mainGlobals "MOST_HOURS" = some (some u1)) (r1 : L2.RelV (.int 6) u1)
    (g2 : PySem.W.nsIn K mainGlobals "MOST_RATE" = some (some u2)) (r2 : L2.RelV (.int 9) u2)
    (g3 : PySem.W.nsIn K mainGlobals "MOST_ROOM" = some (some u3)) (r3 : L2.RelV (.int 40) u3)
    (g4 : PySem.W.nsIn K mainGlobals "MOST_SUM" = some (some u4)) (r4 : L2.RelV (.int 99) u4) : Facts K mg where
  f_is_integer := ⟨f0, _, fun_mk (st := s_is_integer) l0 c0 k0, PySem.W.mg_of X G a0⟩
  f_is_tuple := ⟨f1, _, fun_mk (st := s_is_tuple) l1 c1 k1, PySem.W.mg_of X G a1⟩
  f_rated_between := ⟨f2, _, fun_mk (st := s_rated_between) l2 c2 k2, PySem.W.mg_of X G a2⟩
  f_summed_from := ⟨f3, _, fun_mk (st := s_summed_from) l3 c3 k3, PySem.W.mg_of X G a3⟩
  f_plain_of := ⟨f4, _, fun_mk (st := s_plain_of) l4 c4 k4, PySem.W.mg_of X G a4⟩
  f__law_hand := ⟨f5, _, fun_mk (st := s__law_hand) l5 c5 k5, PySem.W.mg_of X G a5⟩
  f__law_draw := ⟨f6, _, fun_mk (st := s__law_draw) l6 c6 k6, PySem.W.mg_of X G a6⟩
  f__law_is := ⟨f7, _, fun_mk (st := s__law_is) l7 c7 k7, PySem.W.mg_of X G a7⟩
  f__law_plans := ⟨f8, _, fun_mk (st := s__law_plans) l8 c8 k8, PySem.W.mg_of X G a8⟩
  f__law_rows := ⟨f9, _, fun_mk (st := s__law_rows) l9 c9 k9, PySem.W.mg_of X G a9⟩
  f_is_within := ⟨f10, _, fun_mk (st := s_is_within) l10 c10 k10, PySem.W.mg_of X G a10⟩
  f__law_any := ⟨f11, _, fun_mk (st := s__law_any) l11 c11 k11, PySem.W.mg_of X G a11⟩
  f_are_integers := ⟨f12, _, fun_mk (st := s_are_integers) l12 c12 k12, PySem.W.mg_of X G a12⟩
  f_is_hours := ⟨f13, _, fun_mk (st := s_is_hours) l13 c13 k13, PySem.W.mg_of X G a13⟩
  f_is_rate := ⟨f14, _, fun_mk (st := s_is_rate) l14 c14 k14, PySem.W.mg_of X G a14⟩
  f_is_room := ⟨f15, _, fun_mk (st := s_is_room) l15 c15 k15, PySem.W.mg_of X G a15⟩
  f_check_hours := ⟨f16, _, fun_mk (st := s_check_hours) l16 c16 k16, PySem.W.mg_of X G a16⟩
  f_are_draws := ⟨f17, _, fun_mk (st := s_are_draws) l17 c17 k17, PySem.W.mg_of X G a17⟩
  f_car_thing := ⟨f18, _, fun_mk (st := s_car_thing) l18 c18 k18, PySem.W.mg_of X G a18⟩
  f_boiler_thing := ⟨f19, _, fun_mk (st := s_boiler_thing) l19 c19 k19, PySem.W.mg_of X G a19⟩
  f_store_thing := ⟨f20, _, fun_mk (st := s_store_thing) l20 c20 k20, PySem.W.mg_of X G a20⟩
  f_run_thing := ⟨f21, _, fun_mk (st := s_run_thing) l21 c21 k21, PySem.W.mg_of X G a21⟩
  f_plain_thing := ⟨f22, _, fun_mk (st := s_plain_thing) l22 c22 k22, PySem.W.mg_of X G a22⟩
  f__law_car := ⟨f23, _, fun_mk (st := s__law_car) l23 c23 k23, PySem.W.mg_of X G a23⟩
  f__law_boiler := ⟨f24, _, fun_mk (st := s__law_boiler) l24 c24 k24, PySem.W.mg_of X G a24⟩
  f__law_store := ⟨f25, _, fun_mk (st := s__law_store) l25 c25 k25, PySem.W.mg_of X G a25⟩
  f__law_run := ⟨f26, _, fun_mk (st := s__law_run) l26 c26 k26, PySem.W.mg_of X G a26⟩
  f__law_plain := ⟨f27, _, fun_mk (st := s__law_plain) l27 c27 k27, PySem.W.mg_of X G a27⟩
  f_law := ⟨f28, _, fun_mk (st := s_law) l28 c28 k28, PySem.W.mg_of X G a28⟩
  n_abs := PySem.W.mg_none_of X G z0
  n_all := PySem.W.mg_none_of X G z1
  n_bool := PySem.W.mg_none_of X G z2
  n_enumerate := PySem.W.mg_none_of X G z3
  n_int := PySem.W.mg_none_of X G z4
  n_isinstance := PySem.W.mg_none_of X G z5
  n_len := PySem.W.mg_none_of X G z6
  n_min := PySem.W.mg_none_of X G z7
  n_range := PySem.W.mg_none_of X G z8
  n_repr := PySem.W.mg_none_of X G z9
  n_sum := PySem.W.mg_none_of X G z10
  n_tuple := PySem.W.mg_none_of X G z11
  n_zip := PySem.W.mg_none_of X G z12
  c_MOST_AMOUNT := ⟨u0, PySem.W.mg_of X G g0, r0⟩
  c_MOST_HOURS := ⟨u1, PySem.W.mg_of X G g1, r1⟩
  c_MOST_RATE := ⟨u2, PySem.W.mg_of X G g2, r2⟩
  c_MOST_ROOM := ⟨u3, PySem.W.mg_of X G g3, r3⟩
  c_MOST_SUM := ⟨u4, PySem.W.mg_of X G g4, r4⟩
theorem facts_of {K : PySem.W.Frag} {h : Heap} {mg : Str → Option Value} (X : K.In h) (E : Facts K mg) : Facts K mg := E
end LK10
open PySem PySem.W PyProof.Rows
set_option maxRecDepth 100000 in
set_option maxHeartbeats 0 in
theorem PySem.Challenge.cw_loadswait_k10_whole_cars_boilers_stores_holds : PySem.Challenge.rw_loadswait_k10_whole_cars_boilers_stores.Holds := by
  w_on; o_law; k_head; (case hw => w_witness2)
  k_fill
  refine DL.law_walk (l := PySem.Challenge.rw_loadswait_k10_whole_cars_boilers_stores) (n := 63) (k := 7) (x := "script") (sem := LK10.sem_law) rfl (by decide) rfl ⟨rfl, by decide, by decide⟩ (fun w h Y => PySem.W.kIn_of Y) ?F (fun ns hn => LK10.law_true ns hn)
  case F =>
    intro w mg fa h KX G hmg
    have E := LK10.facts_of (mg := mg) KX (by
      refine' LK10.all_mk KX G ?dl_a0 ?dl_l0 ?dl_c0 ?dl_k0 ?dl_a1 ?dl_l1 ?dl_c1 ?dl_k1 ?dl_a2 ?dl_l2 ?dl_c2 ?dl_k2 ?dl_a3 ?dl_l3 ?dl_c3 ?dl_k3 ?dl_a4 ?dl_l4 ?dl_c4 ?dl_k4 ?dl_a5 ?dl_l5 ?dl_c5 ?dl_k5 ?dl_a6 ?dl_l6 ?dl_c6 ?dl_k6 ?dl_a7 ?dl_l7 ?dl_c7 ?dl_k7 ?dl_a8 ?dl_l8 ?dl_c8 ?dl_k8 ?dl_a9 ?dl_l9 ?dl_c9 ?dl_k9 ?dl_a10 ?dl_l10 ?dl_c10 ?dl_k10 ?dl_a11 ?dl_l11 ?dl_c11 ?dl_k11 ?dl_a12 ?dl_l12 ?dl_c12 ?dl_k12 ?dl_a13 ?dl_l13 ?dl_c13 ?dl_k13 ?dl_a14 ?dl_l14 ?dl_c14 ?dl_k14 ?dl_a15 ?dl_l15 ?dl_c15 ?dl_k15 ?dl_a16 ?dl_l16 ?dl_c16 ?dl_k16 ?dl_a17 ?dl_l17 ?dl_c17 ?dl_k17 ?dl_a18 ?dl_l18 ?dl_c18 ?dl_k18 ?dl_a19 ?dl_l19 ?dl_c19 ?dl_k19 ?dl_a20 ?dl_l20 ?dl_c20 ?dl_k20 ?dl_a21 ?dl_l21 ?dl_c21 ?dl_k21 ?dl_a22 ?dl_l22 ?dl_c22 ?dl_k22 ?dl_a23 ?dl_l23 ?dl_c23 ?dl_k23 ?dl_a24 ?dl_l24 ?dl_c24 ?dl_k24 ?dl_a25 ?dl_l25 ?dl_c25 ?dl_k25 ?dl_a26 ?dl_l26 ?dl_c26 ?dl_k26 ?dl_a27 ?dl_l27 ?dl_c27 ?dl_k27 ?dl_a28 ?dl_l28 ?dl_c28 ?dl_k28 ?dl_z0 ?dl_z1 ?dl_z2 ?dl_z3 ?dl_z4 ?dl_z5 ?dl_z6 ?dl_z7 ?dl_z8 ?dl_z9 ?dl_z10 ?dl_z11 ?dl_z12 ?dl_g0 ?dl_r0 ?dl_g1 ?dl_r1 ?dl_g2 ?dl_r2 ?dl_g3 ?dl_r3 ?dl_g4 ?dl_r4
      (case dl_a0 => k_is)
      (case dl_l0 => k_is)
      (case dl_c0 => k_is)
      (case dl_k0 => k_is)
      (case dl_a1 => k_is)
      (case dl_l1 => k_is)
      (case dl_c1 => k_is)
      (case dl_k1 => k_is)
      (case dl_a2 => k_is)
      (case dl_l2 => k_is)
      (case dl_c2 => k_is)
      (case dl_k2 => k_is)
      (case dl_a3 => k_is)
      (case dl_l3 => k_is)
      (case dl_c3 => k_is)
      (case dl_k3 => k_is)
      (case dl_a4 => k_is)
      (case dl_l4 => k_is)
      (case dl_c4 => k_is)
      (case dl_k4 => k_is)
      (case dl_a5 => k_is)
      (case dl_l5 => k_is)
      (case dl_c5 => k_is)
      (case dl_k5 => k_is)
      (case dl_a6 => k_is)
      (case dl_l6 => k_is)
      (case dl_c6 => k_is)
      (case dl_k6 => k_is)
      (case dl_a7 => k_is)
      (case dl_l7 => k_is)
      (case dl_c7 => k_is)
      (case dl_k7 => k_is)
      (case dl_a8 => k_is)
      (case dl_l8 => k_is)
      (case dl_c8 => k_is)
      (case dl_k8 => k_is)
      (case dl_a9 => k_is)
      (case dl_l9 => k_is)
      (case dl_c9 => k_is)
      (case dl_k9 => k_is)
      (case dl_a10 => k_is)
      (case dl_l10 => k_is)
      (case dl_c10 => k_is)
      (case dl_k10 => k_is)
      (case dl_a11 => k_is)
      (case dl_l11 => k_is)
      (case dl_c11 => k_is)
      (case dl_k11 => k_is)
      (case dl_a12 => k_is)
      (case dl_l12 => k_is)
      (case dl_c12 => k_is)
      (case dl_k12 => k_is)
      (case dl_a13 => k_is)
      (case dl_l13 => k_is)
      (case dl_c13 => k_is)
      (case dl_k13 => k_is)
      (case dl_a14 => k_is)
      (case dl_l14 => k_is)
      (case dl_c14 => k_is)
      (case dl_k14 => k_is)
      (case dl_a15 => k_is)
      (case dl_l15 => k_is)
      (case dl_c15 => k_is)
      (case dl_k15 => k_is)
      (case dl_a16 => k_is)
      (case dl_l16 => k_is)
      (case dl_c16 => k_is)
      (case dl_k16 => k_is)
      (case dl_a17 => k_is)
      (case dl_l17 => k_is)
      (case dl_c17 => k_is)
      (case dl_k17 => k_is)
      (case dl_a18 => k_is)
      (case dl_l18 => k_is)
      (case dl_c18 => k_is)
      (case dl_k18 => k_is)
      (case dl_a19 => k_is)
      (case dl_l19 => k_is)
      (case dl_c19 => k_is)
      (case dl_k19 => k_is)
      (case dl_a20 => k_is)
      (case dl_l20 => k_is)
      (case dl_c20 => k_is)
      (case dl_k20 => k_is)
      (case dl_a21 => k_is)
      (case dl_l21 => k_is)
      (case dl_c21 => k_is)
      (case dl_k21 => k_is)
      (case dl_a22 => k_is)
      (case dl_l22 => k_is)
      (case dl_c22 => k_is)
      (case dl_k22 => k_is)
      (case dl_a23 => k_is)
      (case dl_l23 => k_is)
      (case dl_c23 => k_is)
      (case dl_k23 => k_is)
      (case dl_a24 => k_is)
      (case dl_l24 => k_is)
      (case dl_c24 => k_is)
      (case dl_k24 => k_is)
      (case dl_a25 => k_is)
      (case dl_l25 => k_is)
      (case dl_c25 => k_is)
      (case dl_k25 => k_is)
      (case dl_a26 => k_is)
      (case dl_l26 => k_is)
      (case dl_c26 => k_is)
      (case dl_k26 => k_is)
      (case dl_a27 => k_is)
      (case dl_l27 => k_is)
      (case dl_c27 => k_is)
      (case dl_k27 => k_is)
      (case dl_a28 => k_is)
      (case dl_l28 => k_is)
      (case dl_c28 => k_is)
      (case dl_k28 => k_is)
      (case dl_z0 => k_is)
      (case dl_z1 => k_is)
      (case dl_z2 => k_is)
      (case dl_z3 => k_is)
      (case dl_z4 => k_is)
      (case dl_z5 => k_is)
      (case dl_z6 => k_is)
      (case dl_z7 => k_is)
      (case dl_z8 => k_is)
      (case dl_z9 => k_is)
      (case dl_z10 => k_is)
      (case dl_z11 => k_is)
      (case dl_z12 => k_is)
      (case dl_g0 => k_is)
      (case dl_g1 => k_is)
      (case dl_g2 => k_is)
      (case dl_g3 => k_is)
      (case dl_g4 => k_is)
      (case dl_r0 => exact ⟨_, rfl⟩)
      (case dl_r1 => exact ⟨_, rfl⟩)
      (case dl_r2 => exact ⟨_, rfl⟩)
      (case dl_r3 => exact ⟨_, rfl⟩)
      (case dl_r4 => exact ⟨_, rfl⟩))
    obtain ⟨f, fd, F, hm⟩ := E.f_law
    have e := hmg.symm.trans hm
    cases e
    refine ⟨fd, ?_, fun base _ _ => ?_⟩
    · obtain ⟨oc, od, kV, doc, pm, an, cdv, ct, osl, rfl, lk, hcd⟩ := F.ex
      exact fun s v => .of_eq rfl
    · exact LK10.fn_law E F
