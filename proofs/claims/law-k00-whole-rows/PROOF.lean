import PyProof.Rows.All
import Wide.All
import OpenK.AllK
import Wide.FinOn
import HandS.ForMost
import HandS.Exc
import HandS.ExcOwn
import HandS.TryOnly
import HandS.WordsExc
import HandS.Deep
import HandS.Conv
import HandS.TupAny
import HandS.IsInst
import HandS.Strs
import HandS.SetFor
import HandS.Star
import HandS.Style
import KE.SortData
import HandS.Words
import HandS.HeadHook1
import HandS.HeadHook2
import HandS.HeadEnd
import PySem.Challenge.RW_dealclashes_k00_whole_rows
import HandS.Head1
import KE.KStateDown
import HandS.Ends
import HandS.More
import HandS.Defaults
import HandS.Head0
import HandS.Head2
set_option Elab.async false
set_option linter.all false
set_option maxRecDepth 100000
set_option maxHeartbeats 0
namespace PV
open PySem PySem.Spec PyProof.Rows L2

/-! ### values, cells, results -/
/-- a value: data, or the number of a cell -/
inductive W where
  | d (x : PyData) | l (n : Nat)
/-- an object that may change -/
inductive Cell where
  | lst (xs : List W) | dead
/-- what an evaluation gives -/
inductive R (α : Type) where
  | ok (a : α) (m : List Cell) | exc (c : Nat) (m : List Cell) | bad
def R.bind {α β : Type} (r : R α) (f : α → List Cell → R β) : R β := match r with
  | .ok a m => f a m
  | .exc c m => .exc c m
  | .bad => .bad

/-! ### relations -/
def hide (φ : List (Option Addr)) (H : Hp) : Hp := fun a => if some a ∈ φ then none else H a
/-- an exact tuple's object -/
def TupO (o : Obj) : Prop := o.cls = .type "tuple" ∧ o.dict = none
/-- a tuple that is known to its object -/
def SqX (K : PySem.W.Frag) (G : Hp) (a : Addr) (xs : List V) : Prop :=
  (∃ o, G a = some (.frz o (.tup xs)) ∧ TupO o) ∨
    ∃ (o : Obj) (its : Array Value) (n : Nat), K.lookup a = some o ∧ TupO o ∧ o.data = .seq its n ∧ its.size ≤ sizeLine ∧ Vals xs its.toList
theorem SqX.sq {K : PySem.W.Frag} {G : Hp} {a : Addr} {xs : List V} (h : SqX K G a xs) : SqT K G a xs := by
  rcases h with ⟨o, e, _⟩ | ⟨o, its, n, h1, h2, h3⟩
  · exact .inl (.inr ⟨o, e⟩)
  · exact .inr ⟨o, its, n, h1, h2.1, h3⟩
mutual
/-- data at a value -/
inductive Dv (K : PySem.W.Frag) (G : Hp) : V → PyData → Prop
  | non : Dv K G .non .none
  | bl (b : Bool) : Dv K G (.bl b) (.bool b)
  | int (i : Int) : Dv K G (.int i) (.int i)
  | str (x : Str) : PyData.canLay0 (.str x) = true → Dv K G (.str x) (.str x)
  | lst {a : Addr} {xs : List V} {ds : List PyData} : SqL K G a xs → DvAll K G xs ds → Dv K G (.ref a) (.list ds)
  | tup {a : Addr} {xs : List V} {ds : List PyData} : SqX K G a xs → DvAll K G xs ds → Dv K G (.ref a) (.tuple ds)
inductive DvAll (K : PySem.W.Frag) (G : Hp) : List V → List PyData → Prop
  | nil : DvAll K G [] []
  | cons {v : V} {vs : List V} {d : PyData} {ds : List PyData} : Dv K G v d → DvAll K G vs ds → DvAll K G (v :: vs) (d :: ds)
end
def RW (K : PySem.W.Frag) (φ : List (Option Addr)) (H : Hp) : W → V → Prop
  | .d x, v => Dv K (hide φ H) v x
  | .l n, v => ∃ o, φ[n]? = some o ∧ ∀ a, o = some a → v = .ref a
inductive RWs (K : PySem.W.Frag) (φ : List (Option Addr)) (H : Hp) : List W → List V → Prop
  | nil : RWs K φ H [] []
  | cons {w : W} {ws : List W} {v : V} {vs : List V} : RW K φ H w v → RWs K φ H ws vs → RWs K φ H (w :: ws) (v :: vs)
def CR (K : PySem.W.Frag) (φ : List (Option Addr)) (H : Hp) : Cell → Addr → Prop
  | .lst ws, a => ∃ vs, H a = some (.lst vs) ∧ RWs K φ H ws vs
  | .dead, _ => False
/-- the store is held -/
structure SR (K : PySem.W.Frag) (φ : List (Option Addr)) (M : List Cell) (H : Hp) : Prop where
  nd : ∀ (i j : Nat) (a : Addr), φ[i]? = some (some a) → φ[j]? = some (some a) → i = j
  len : φ.length = M.length
  cell : ∀ (i : Nat) (c : Cell), M[i]? = some c → (c = .dead ∧ φ[i]? = some none) ∨ ∃ a, φ[i]? = some (some a) ∧ CR K φ H c a
/-- what may have changed: the cells from b on, new ones -/
structure Ext (b : Nat) (φ : List (Option Addr)) (H : Hp) (φ' : List (Option Addr)) (H' : Hp) : Prop where
  ext : ∀ (i : Nat) o, φ[i]? = some o → φ'[i]? = some o ∨ (b ≤ i ∧ φ'[i]? = some none)
  new : ∀ (i : Nat) a, φ'[i]? = some (some a) → φ[i]? = some (some a) ∨ (φ.length ≤ i ∧ H a = none)
  keep : ∀ a o, (∀ (i : Nat), b ≤ i → φ[i]? ≠ some (some a)) → H a = some o → H' a = some o
  there : ∀ a, H' a = none → H a = none

section
variable {K : PySem.W.Frag} {φ φ' φ1 φ2 : List (Option Addr)} {H H' H1 H2 : Hp} {M M' : List Cell} {b b' : Nat}
theorem Ext.refl : Ext b φ H φ H := ⟨fun _ _ h => .inl h, fun _ _ h => .inl h, fun _ _ _ h => h, fun _ h => h⟩
theorem Ext.len (e : Ext b φ H φ' H') : φ.length ≤ φ'.length := by
  refine Nat.le_of_not_lt fun h => ?_
  have h1 : φ[φ'.length]? = some φ[φ'.length] := List.getElem?_eq_getElem h
  rcases e.ext _ _ h1 with q | ⟨_, q⟩
  · rw [List.getElem?_eq_none (Nat.le_refl _)] at q; cases q
  · rw [List.getElem?_eq_none (Nat.le_refl _)] at q; cases q
theorem Ext.trans (x : Ext b φ H φ1 H1) (y : Ext b φ1 H1 φ2 H2) : Ext b φ H φ2 H2 where
  ext := fun i o h => by
    rcases x.ext i o h with q | ⟨hb, q⟩
    · exact y.ext i o q
    · rcases y.ext i _ q with z | ⟨_, z⟩
      · exact .inr ⟨hb, z⟩
      · exact .inr ⟨hb, z⟩
  new := fun i a h => by
    rcases y.new i a h with q | ⟨l, q⟩
    · exact x.new i a q
    · exact .inr ⟨Nat.le_trans x.len l, x.there a q⟩
  keep := fun a o hn h => by
    refine y.keep a o (fun j hj e => ?_) (x.keep a o hn h)
    rcases x.new j a e with q | ⟨_, q⟩
    · exact hn j hj q
    · rw [q] at h; cases h
  there := fun a h => x.there a (y.there a h)
theorem Ext.mono (x : Ext b φ H φ' H') (h : b' ≤ b) : Ext b' φ H φ' H' where
  ext := fun i o q => (x.ext i o q).imp_right fun ⟨a, c⟩ => ⟨Nat.le_trans h a, c⟩
  new := x.new
  keep := fun a o hn => x.keep a o fun i hi => hn i (Nat.le_trans h hi)
  there := x.there
theorem hide_of {a : Addr} {o : HO} (h : hide φ H a = some o) : H a = some o ∧ some a ∉ φ := by
  unfold hide at h
  by_cases hm : some a ∈ φ
  · rw [if_pos hm] at h; cases h
  · rw [if_neg hm] at h; exact ⟨h, hm⟩
theorem hide_in {a : Addr} {o : HO} (h : H a = some o) (hn : some a ∉ φ) : hide φ H a = some o := by
  unfold hide; rw [if_neg hn]; exact h
theorem not_mem_of (h : ∀ i : Nat, φ[i]? ≠ some (some a)) : some a ∉ φ := fun hm => by
  obtain ⟨i, e⟩ := List.mem_iff_getElem?.mp hm
  exact h i e
theorem Ext.hid (x : Ext b φ H φ' H') : Same (hide φ H) (hide φ' H') := fun a o h => by
  obtain ⟨h1, h2⟩ := hide_of h
  refine hide_in (x.keep a o (fun i _ e => h2 (List.mem_of_getElem? e)) h1) (not_mem_of fun i e => ?_)
  rcases x.new i a e with q | ⟨_, q⟩
  · exact h2 (List.mem_of_getElem? q)
  · rw [q] at h1; cases h1
theorem Same.seqX {G G' : Hp} {a : Addr} {xs : List V} (e : Same G G') (h : SqX K G a xs) : SqX K G' a xs := by
  rcases h with ⟨o, h, t⟩ | h
  · exact .inl ⟨o, e _ _ h, t⟩
  · exact .inr h
theorem Same.seqT {G G' : Hp} {a : Addr} {xs : List V} (e : Same G G') (h : SqT K G a xs) : SqT K G' a xs := by
  rcases h with (h | ⟨o, h⟩) | h
  · exact .inl (.inl (e _ _ h))
  · exact .inl (.inr ⟨o, e _ _ h⟩)
  · exact .inr h
mutual
theorem Dv.mono {G G' : Hp} (e : Same G G') : ∀ (d : PyData) (v : V), Dv K G v d → Dv K G' v d
  | .none, _, h => by cases h; exact .non
  | .bool b, _, h => by cases h; exact .bl b
  | .int i, _, h => by cases h; exact .int i
  | .str x, _, h => by cases h with | str _ q => exact .str x q
  | .list ds, _, h => by
    cases h with
    | lst hs ha => exact .lst (e.seq hs) (DvAll.mono e ds _ ha)
  | .tuple ds, _, h => by
    cases h with
    | tup hs ha => exact .tup (Same.seqX e hs) (DvAll.mono e ds _ ha)
  | .dict _, _, h => by cases h
theorem DvAll.mono {G G' : Hp} (e : Same G G') : ∀ (ds : List PyData) (vs : List V), DvAll K G vs ds → DvAll K G' vs ds
  | [], _, h => by cases h; exact .nil
  | d :: ds, _, h => by
    cases h with
    | cons h1 h2 => exact .cons (Dv.mono e d _ h1) (DvAll.mono e ds _ h2)
end
theorem hide_same : Same (hide φ H) H := fun _ _ h => (hide_of h).1
mutual
theorem Dv.dp {G : Hp} : ∀ (d : PyData) (v : V), Dv K G v d → Dp K G v d
  | .none, _, h => by cases h; exact .non
  | .bool b, _, h => by cases h; exact .bl b
  | .int i, _, h => by cases h; exact .int i
  | .str x, _, h => by cases h; exact .str x
  | .list ds, _, h => by
    cases h with
    | lst hs ha => exact .lst hs (DvAll.dp ds _ ha)
  | .tuple ds, _, h => by
    cases h with
    | tup hs ha => exact .tup hs.sq (DvAll.dp ds _ ha)
  | .dict _, _, h => by cases h
theorem DvAll.dp {G : Hp} : ∀ (ds : List PyData) (vs : List V), DvAll K G vs ds → DpAll K G vs ds
  | [], _, h => by cases h; exact .nil
  | d :: ds, _, h => by
    cases h with
    | cons h1 h2 => exact .cons (Dv.dp d _ h1) (DvAll.dp ds _ h2)
end
mutual
theorem Dv.lay {G : Hp} : ∀ (d : PyData) (v : V), Dv K G v d → d.canLay0 = true
  | .none, _, _ => by simp only [PyData.canLay0]
  | .bool b, _, _ => by simp only [PyData.canLay0]
  | .int i, _, _ => by simp only [PyData.canLay0]
  | .str x, _, h => by cases h with | str _ q => exact q
  | .list ds, _, h => by
    cases h with
    | lst hs ha => simp only [PyData.canLay0]; exact DvAll.lay ds _ ha
  | .tuple ds, _, h => by
    cases h with
    | tup hs ha => simp only [PyData.canLay0]; exact DvAll.lay ds _ ha
  | .dict _, _, h => by cases h
theorem DvAll.lay {G : Hp} : ∀ (ds : List PyData) (vs : List V), DvAll K G vs ds → PyData.canLayAll0 ds = true
  | [], _, _ => by simp only [PyData.canLayAll0]
  | d :: ds, _, h => by
    cases h with
    | cons h1 h2 => simp only [PyData.canLayAll0, Dv.lay d _ h1, DvAll.lay ds _ h2, Bool.and_self]
end
theorem RW.mono {w : W} {v : V} (h : RW K φ H w v) (x : Ext b φ H φ' H') : RW K φ' H' w v := by
  cases w with
  | d y => exact Dv.mono x.hid y v h
  | l n =>
    obtain ⟨o, e, q⟩ := h
    rcases x.ext n o e with z | ⟨_, z⟩
    · exact ⟨o, z, q⟩
    · exact ⟨none, z, fun a q => by cases q⟩
theorem RWs.mono {ws : List W} {vs : List V} (h : RWs K φ H ws vs) (x : Ext b φ H φ' H') : RWs K φ' H' ws vs := by
  induction h with
  | nil => exact .nil
  | cons h1 _ ih => exact .cons (h1.mono x) ih
theorem RWs.length {ws : List W} {vs : List V} (h : RWs K φ H ws vs) : ws.length = vs.length := by
  induction h with
  | nil => rfl
  | cons _ _ ih => simp [ih]
theorem RWs.get {ws : List W} {vs : List V} (h : RWs K φ H ws vs) : ∀ {i : Nat} {w : W}, ws[i]? = some w → ∃ v, vs[i]? = some v ∧ RW K φ H w v := by
  induction h with
  | nil => intro i w e; simp at e
  | cons h1 _ ih =>
    intro i w e
    cases i with
    | zero => simp at e; subst e; exact ⟨_, rfl, h1⟩
    | succ i => exact ih (by simpa using e)
theorem RWs.set {ws : List W} {vs : List V} {w : W} {v : V} (h : RWs K φ H ws vs) (r : RW K φ H w v) : ∀ (i : Nat), RWs K φ H (ws.set i w) (vs.set i v) := by
  induction h with
  | nil => intro i; exact .nil
  | cons h1 h2 ih =>
    intro i
    cases i with
    | zero => exact .cons r h2
    | succ i => exact .cons h1 (ih i)
theorem RWs.append {ws ws' : List W} {vs vs' : List V} (h : RWs K φ H ws vs) (h' : RWs K φ H ws' vs') : RWs K φ H (ws ++ ws') (vs ++ vs') := by
  induction h with
  | nil => exact h'
  | cons h1 _ ih => exact .cons h1 ih
theorem DvAll.length {G : Hp} : ∀ {ds : List PyData} {vs : List V}, DvAll K G vs ds → vs.length = ds.length
  | _, _, .nil => rfl
  | _, _, .cons _ t => by simp [DvAll.length t]
theorem DvAll.get {G : Hp} : ∀ {ds : List PyData} {vs : List V}, DvAll K G vs ds → ∀ {i : Nat} {d : PyData}, ds[i]? = some d → ∃ v, vs[i]? = some v ∧ Dv K G v d
  | _, _, .nil, i, d, e => by simp at e
  | _, _, .cons h1 t, 0, d, e => by simp at e; subst e; exact ⟨_, rfl, h1⟩
  | _, _, .cons h1 t, i + 1, d, e => DvAll.get t (by simpa using e)
theorem DvAll.append {G : Hp} : ∀ {ds ds' : List PyData} {vs vs' : List V}, DvAll K G vs ds → DvAll K G vs' ds' → DvAll K G (vs ++ vs') (ds ++ ds')
  | _, _, _, _, .nil, h' => h'
  | _, _, _, _, .cons h1 t, h' => .cons h1 (DvAll.append t h')
theorem DvAll.take {G : Hp} : ∀ {ds : List PyData} {vs : List V} (n : Nat), DvAll K G vs ds → DvAll K G (vs.take n) (ds.take n)
  | _, _, 0, _ => .nil
  | _, _, _ + 1, .nil => .nil
  | _, _, n + 1, .cons h1 t => .cons h1 (DvAll.take n t)
theorem DvAll.drop {G : Hp} : ∀ {ds : List PyData} {vs : List V} (n : Nat), DvAll K G vs ds → DvAll K G (vs.drop n) (ds.drop n)
  | _, _, 0, h => h
  | _, _, _ + 1, .nil => .nil
  | _, _, n + 1, .cons h1 t => DvAll.drop n t

/-! ### steps of the store -/
/-- a new object that is data from now on -/
theorem ext_new {p : Addr} {o : HO} (hp : H p = none) (hf : ∀ i : Nat, φ[i]? ≠ some (some p)) : Ext b φ H φ (upd H p o) := by
  refine ⟨fun _ _ h => .inl h, fun _ _ h => .inl h, fun a u hn h => ?_, fun a h => ?_⟩
  · rw [upd_ne (ne_of_none h hp)]; exact h
  · by_cases e : a = p
    · subst e; exact hp
    · rw [upd_ne e] at h; exact h
theorem CR.there {c : Cell} {a : Addr} (h : CR K φ H c a) : ∃ o, H a = some o ∧ Mut (some o) := by
  cases c with
  | lst ws => obtain ⟨vs, e, _⟩ := h; exact ⟨_, e, trivial⟩
  | dead => exact h.elim
theorem CR.mono {c : Cell} {a : Addr} (h : CR K φ H c a) (x : Ext b φ H φ' H') (e : H' a = H a) : CR K φ' H' c a := by
  cases c with
  | lst ws => obtain ⟨vs, e1, r⟩ := h; exact ⟨vs, e.trans e1, r.mono x⟩
  | dead => exact h.elim
theorem SR.of_mem (S : SR K φ M H) {i : Nat} {a : Addr} (h : φ[i]? = some (some a)) : ∃ c, M[i]? = some c ∧ CR K φ H c a := by
  have hi : i < M.length := by rw [← S.len]; exact (List.getElem?_eq_some_iff.mp h).1
  refine ⟨M[i], List.getElem?_eq_getElem hi, ?_⟩
  rcases S.cell i _ (List.getElem?_eq_getElem hi) with ⟨_, e⟩ | ⟨a', e, r⟩
  · rw [h] at e; cases e
  · rw [h] at e; cases e; exact r
theorem SR.free (S : SR K φ M H) {p : Addr} (hp : H p = none) (i : Nat) : φ[i]? ≠ some (some p) := fun e => by
  obtain ⟨c, _, r⟩ := S.of_mem e
  obtain ⟨o, q, _⟩ := r.there
  rw [hp] at q; cases q
/-- the store stands where the cells' objects do -/
theorem SR.stay (S : SR K φ M H) (x : Ext b φ H φ H') (k : ∀ (i : Nat) a, φ[i]? = some (some a) → H' a = H a) : SR K φ M H' :=
  ⟨S.nd, S.len, fun i c h => (S.cell i c h).imp_right fun ⟨a, e, r⟩ => ⟨a, e, r.mono x (k i a e)⟩⟩
/-- a new object that is data -/
theorem SR.ext (S : SR K φ M H) {p : Addr} {o : HO} (hp : H p = none) : Ext b φ H φ (upd H p o) := ext_new hp (S.free hp)
theorem SR.data (S : SR K φ M H) {p : Addr} {o : HO} (hp : H p = none) : SR K φ M (upd H p o) :=
  S.stay (b := 0) (S.ext hp) fun i a e => upd_ne fun z => S.free hp i (z ▸ e)
theorem SR.hid_new (S : SR K φ M H) {p : Addr} {o : HO} (hp : H p = none) : hide φ (upd H p o) p = some o := hide_in upd_same (not_mem_of (S.free hp))
/-- a new cell -/
theorem SR.ext_cell (S : SR K φ M H) {p : Addr} {o : HO} (hp : H p = none) : Ext b φ H (φ ++ [some p]) (upd H p o) := by
  refine ⟨fun i u h => .inl ?_, fun i a h => ?_, fun a u hn h => ?_, fun a h => ?_⟩
  · rw [List.getElem?_append_left (List.getElem?_eq_some_iff.mp h).1]; exact h
  · by_cases hi : i < φ.length
    · rw [List.getElem?_append_left hi] at h; exact .inl h
    · rw [List.getElem?_append_right (Nat.le_of_not_lt hi)] at h
      refine .inr ⟨Nat.le_of_not_lt hi, ?_⟩
      have h0 : i - φ.length = 0 := by
        have := (List.getElem?_eq_some_iff.mp h).1
        simpa using this
      rw [h0] at h
      cases h; exact hp
  · rw [upd_ne (ne_of_none h hp)]; exact h
  · by_cases e : a = p
    · subst e; exact hp
    · rw [upd_ne e] at h; exact h
theorem SR.new_cell (S : SR K φ M H) {p : Addr} {o : HO} {c : Cell} (hp : H p = none) (hc : CR K (φ ++ [some p]) (upd H p o) c p) : SR K (φ ++ [some p]) (M ++ [c]) (upd H p o) := by
  have x : Ext 0 φ H (φ ++ [some p]) (upd H p o) := S.ext_cell hp
  have at_ : ∀ (i : Nat) a, (φ ++ [some p])[i]? = some (some a) → (i < φ.length ∧ φ[i]? = some (some a)) ∨ (i = φ.length ∧ a = p) := fun i a h => by
    by_cases hi : i < φ.length
    · rw [List.getElem?_append_left hi] at h; exact .inl ⟨hi, h⟩
    · rw [List.getElem?_append_right (Nat.le_of_not_lt hi)] at h
      have h0 : i - φ.length = 0 := by
        have := (List.getElem?_eq_some_iff.mp h).1
        simpa using this
      rw [h0] at h
      cases h
      exact .inr ⟨by omega, rfl⟩
  refine ⟨fun i j a h1 h2 => ?_, by simp [S.len], fun i c' h => ?_⟩
  · rcases at_ i a h1 with ⟨_, q1⟩ | ⟨e1, q1⟩ <;> rcases at_ j a h2 with ⟨_, q2⟩ | ⟨e2, q2⟩
    · exact S.nd i j a q1 q2
    · subst q2; exact absurd q1 (S.free hp i)
    · subst q1; exact absurd q2 (S.free hp j)
    · omega
  · by_cases hi : i < M.length
    · rw [List.getElem?_append_left hi] at h
      rcases S.cell i c' h with ⟨e1, e2⟩ | ⟨a, e, r⟩
      · exact .inl ⟨e1, by rw [List.getElem?_append_left (by rw [S.len]; exact hi)]; exact e2⟩
      · refine .inr ⟨a, by rw [List.getElem?_append_left (by rw [S.len]; exact hi)]; exact e, r.mono x (upd_ne fun z => S.free hp i (z ▸ e))⟩
    · rw [List.getElem?_append_right (Nat.le_of_not_lt hi)] at h
      have h0 : i - M.length = 0 := by
        have := (List.getElem?_eq_some_iff.mp h).1
        simpa using this
      rw [h0] at h
      cases h
      refine .inr ⟨p, ?_, hc⟩
      rw [List.getElem?_append_right (by rw [S.len]; omega), S.len, h0]
      rfl
/-- a cell is written -/
theorem SR.ext_write (S : SR K φ M H) {n : Nat} {a : Addr} {o : HO} (hb : b ≤ n) (ha : φ[n]? = some (some a)) : Ext b φ H φ (upd H a o) := by
  refine ⟨fun _ _ h => .inl h, fun _ _ h => .inl h, fun c u hn h => ?_, fun c h => ?_⟩
  · have : c ≠ a := fun z => hn n hb (z ▸ ha)
    rw [upd_ne this]; exact h
  · by_cases e : c = a
    · subst e; rw [upd_same] at h; cases h
    · rw [upd_ne e] at h; exact h
theorem SR.write (S : SR K φ M H) {n : Nat} {a : Addr} {o : HO} {c : Cell} (ha : φ[n]? = some (some a)) (hc : CR K φ (upd H a o) c a) : SR K φ (M.set n c) (upd H a o) := by
  have x : Ext 0 φ H φ (upd H a o) := S.ext_write (Nat.zero_le _) ha
  have hn : n < M.length := by rw [← S.len]; exact (List.getElem?_eq_some_iff.mp ha).1
  refine ⟨S.nd, by simp [S.len], fun i c' h => ?_⟩
  by_cases e : n = i
  · subst e
    rw [List.getElem?_set_self hn] at h
    cases h
    exact .inr ⟨a, ha, hc⟩
  · rw [List.getElem?_set_ne e] at h
    rcases S.cell i c' h with z | ⟨a', e', r⟩
    · exact .inl z
    · exact .inr ⟨a', e', r.mono x (upd_ne fun z => e (S.nd n i a ha (z ▸ e')))⟩
/-- at the end of a def whose own cells are dropped: everything of the caller's stands -/
theorem Ext.pure (x : Ext M.length φ H φ' H') (S : SR K φ M H) : Ext b φ H φ H' where
  ext := fun _ _ h => .inl h
  new := fun _ _ h => .inl h
  keep := fun a o hn h => x.keep a o (fun i hi e => by
    rw [List.getElem?_eq_none (by rw [S.len]; exact hi)] at e; cases e) h
  there := x.there
theorem SR.pure (S : SR K φ M H) (x : Ext M.length φ H φ' H') : SR K φ M H' :=
  S.stay (b := 0) (x.pure S) fun i a e => by
    obtain ⟨c, _, r⟩ := S.of_mem e
    obtain ⟨o, q, _⟩ := r.there
    rw [q]
    exact x.keep a o (fun j hj z => by rw [List.getElem?_eq_none (by rw [S.len]; exact hj)] at z; cases z) q
theorem Ext.hid_pure (x : Ext M.length φ H φ' H') (S : SR K φ M H) : Same (hide φ' H') (hide φ H') := fun a o h => by
  obtain ⟨h1, h2⟩ := hide_of h
  refine hide_in h1 (not_mem_of fun i e => ?_)
  have hi : i < M.length := by rw [← S.len]; exact (List.getElem?_eq_some_iff.mp e).1
  rcases x.ext i _ e with z | ⟨z, _⟩
  · exact h2 (List.mem_of_getElem? z)
  · omega
end
end PV
namespace PV
open PySem PySem.Spec PyProof.Rows L2

/-! ### the text that is evaluated -/
inductive BOp where
  | add | sub | mul | fdiv | mod | pow | shl | shr | band | bor
inductive UOp where
  | neg | inv
inductive COp where
  | eq | ne | lt | le | gt | ge | isN | notN | mem | nmem
inductive Ty where
  | int | bool | str | tuple | list
/-- a built-in's call of one argument -/
inductive Bi where
  | len | int | str | list | tuple | sorted | all | any
/-- a built-in's method -/
inductive Mt where
  | index
inductive Tg where
  | name (i : Nat) | pair (i j : Nat)
mutual
inductive E where
  | cst (x : PyData)
  | var (i : Nat)
  | glob (x : Str) (d : PyData)
  | tup (es : Es)
  | lst (es : Es)
  | lstM (es : Es)
  | bop (o : BOp) (a b : E)
  | uop (o : UOp) (a : E)
  | cmp (o : COp) (a b : E)
  | chn (o p : COp) (a b c : E)
  | and (a b : E)
  | or (a b : E)
  | not (a : E)
  | ite (c a b : E)
  | call (f : Nat) (es : Es)
  | bi (p : Bi) (a : E)
  | isi (a : E) (t : Ty)
  | isiTL (a : E)
  | lrng (a : E)
  | trng (a : E)
  | listM (a : E)
  | mt (m : Mt) (a b : E)
  | ix (a b : E)
  | sl (a : E) (lo hi : Oe)
  | comp (e : E) (t : Tg) (i : It) (c : Oe) (own : List Nat)
  | comp2 (e : E) (t : Tg) (i : It) (c : Oe) (t1 : Tg) (i1 : It) (c1 : Oe) (own own1 : List Nat)
inductive Es where
  | nil | cons (e : E) (r : Es) | star (e : E) (r : Es)
inductive Oe where
  | no | so (e : E)
inductive It where
  | ex (e : E) | rng (e : E) | enum (e : E) | zip (a b : E)
end
mutual
inductive S where
  | asg (i : Nat) (e : E)
  | par (i j : Nat) (a b : E)
  | par3 (i j k : Nat) (a b c : E)
  | sub (a b e : E)
  | aug (i : Nat) (e : E)
  | append (i : Nat) (e : E)
  | ex (e : E)
  | ite (c : E) (a b : Ss)
  | loop (t : Tg) (i : It) (b : Ss)
  | while (n : Nat) (c : E) (b : Ss)
  | ret (e : E)
  | retN
  | raise (c : Nat)
  | pass
  | never
inductive Ss where
  | nil | cons (s : S) (r : Ss)
end

/-! ### operations -/
def lim : Nat := 100000
def pI : PyData → Option Int
  | .int i => some i
  | _ => none
def pIs : List PyData → Option (List Int)
  | [] => some []
  | .int i :: r => (pIs r).map (i :: ·)
  | _ :: _ => none
def pBs : List PyData → Option (List Bool)
  | [] => some []
  | .bool i :: r => (pBs r).map (i :: ·)
  | _ :: _ => none
def ssz (xs : List PyData) : Option (List PyData) := if xs.length ≤ lim then some xs else none
def binD : BOp → PyData → PyData → Option PyData
  | .add, .int i, .int j => some (.int (i + j))
  | .add, .tuple xs, .tuple ys => (ssz (xs ++ ys)).map .tuple
  | .add, .list xs, .list ys => (ssz (xs ++ ys)).map .list
  | .sub, .int i, .int j => some (.int (i - j))
  | .mul, .int i, .int j => if -(2 ^ 64) < j ∧ j < 2 ^ 64 then some (.int (i * j)) else none
  | .fdiv, .int i, .int j => if 0 < j ∧ j < 1073741824 then some (.int (i / j)) else none
  | .mod, .int i, .int j => if 0 < j then some (.int (i % j)) else none
  | .pow, .int i, .int j => if 0 ≤ j ∧ j ≤ 1000000 ∧ i.natAbs < 2 ^ 64 then some (.int (i ^ j.toNat)) else none
  | .shl, .int i, .int j => if 0 ≤ j ∧ j ≤ 1000000 ∧ i.natAbs < 2 ^ 64 then some (.int (i * 2 ^ j.toNat)) else none
  | .shr, .int i, .int j => if 0 ≤ j then some (.int (i / 2 ^ j.toNat)) else none
  | .band, .int i, .int j => some (.int (Builtin.bitAnd i j))
  | .bor, .int i, .int j => some (.int (Builtin.bitOr i j))
  | _, _, _ => none
def uopD : UOp → PyData → Option PyData
  | .neg, .int i => some (.int (-i))
  | .inv, .int i => some (.int (Builtin.bitNot i))
  | _, _ => none
/-- all data -/
def wsD : List W → Option (List PyData)
  | [] => some []
  | .d x :: r => (wsD r).map (x :: ·)
  | .l _ :: _ => none
/-- a value as data, as it stands -/
def rdW (M : List Cell) : W → Option PyData
  | .d x => some x
  | .l n => match M[n]? with
    | some (.lst ws) => (wsD ws).map .list
    | _ => none
def seqO {α : Type} : List (Option α) → Option (List α)
  | [] => some []
  | none :: _ => none
  | some a :: r => (seqO r).map (a :: ·)
/-- at the end of a def: its own cells are data -/
def endW (M : List Cell) (n : Nat) : Nat → W → Option PyData
  | 0, w => (match w with
    | .d x => some x
    | .l _ => none)
  | k + 1, w => (match w with
    | .d x => some x
    | .l i => if n ≤ i then (match M[i]? with
      | some (.lst ws) => (seqO (ws.map (endW M n k))).map .list
      | _ => none) else none)
def isNone : PyData → Bool
  | .none => true
  | _ => false
def anyEqv (d : PyData) (ds : List PyData) : Bool := ds.any fun z => PyData.eqv z d
def cmpD : COp → PyData → PyData → Option Bool
  | .eq, x, y => if min x.depth y.depth ≤ 64 then some (PyData.eqv x y) else none
  | .ne, x, y => if min x.depth y.depth ≤ 64 then some (!PyData.eqv x y) else none
  | .lt, .int i, .int j => some (decide (i < j))
  | .le, .int i, .int j => some (decide (i ≤ j))
  | .gt, .int i, .int j => some (decide (j < i))
  | .ge, .int i, .int j => some (decide (j ≤ i))
  | .isN, x, .none => some (isNone x)
  | .notN, x, .none => some (!isNone x)
  | .mem, x, .list ds => if min (PyData.depthAll ds) x.depth ≤ 64 then some (anyEqv x ds) else none
  | .mem, x, .tuple ds => if min (PyData.depthAll ds) x.depth ≤ 64 then some (anyEqv x ds) else none
  | .nmem, x, .list ds => if min (PyData.depthAll ds) x.depth ≤ 64 then some (!anyEqv x ds) else none
  | .nmem, x, .tuple ds => if min (PyData.depthAll ds) x.depth ≤ 64 then some (!anyEqv x ds) else none
  | _, _, _ => none
def cmpW (o : COp) (m : List Cell) (u v : W) : Option Bool := (rdW m u).bind fun u => (rdW m v).bind fun v => cmpD o u v
def insD (x : PyData) : List PyData → List PyData
  | [] => [x]
  | y :: r => if PySem.W.dataLt y x then y :: insD x r else x :: y :: r
def srtD : List PyData → List PyData
  | [] => []
  | x :: r => insD x (srtD r)
def alikeL (ds : List PyData) : Bool := ds.all fun d => ds.all fun e => PySem.W.alike d e
def tupsL (ds : List PyData) : Bool := ds.all fun d => match d with
  | .tuple (_ :: _) => true
  | _ => false
def intsL (ds : List PyData) : Bool := ds.all fun d => match d with
  | .int _ => true
  | _ => false
def sortD (ds : List PyData) : Option PyData := if intsL ds || (alikeL ds && tupsL ds && decide (PyData.depthAll ds ≤ 64)) then some (.list (srtD ds)) else none
def biD : Bi → PyData → Option PyData
  | .len, .list xs => some (.int xs.length)
  | .len, .tuple xs => some (.int xs.length)
  | .int, .int i => some (.int i)
  | .list, .list xs => some (.list xs)
  | .list, .tuple xs => some (.list xs)
  | .tuple, .list xs => some (.tuple xs)
  | .tuple, .tuple xs => some (.tuple xs)
  | .sorted, .list xs => sortD xs
  | .sorted, .tuple xs => sortD xs
  | .all, .list xs => (pBs xs).map fun bs => .bool (bs.all id)
  | .any, .list xs => (pBs xs).map fun bs => .bool (bs.any id)
  | _, _ => none
def isiD : Ty → PyData → Bool
  | .int, .int _ => true
  | .int, .bool _ => true
  | .bool, .bool _ => true
  | .str, .str _ => true
  | .tuple, .tuple _ => true
  | .list, .list _ => true
  | _, _ => false
def isiW (t : Ty) : W → Bool
  | .d x => isiD t x
  | .l _ => match t with
    | .list => true
    | _ => false
/-- a value that stands -/
def isVal (M : List Cell) : W → Bool
  | .d _ => true
  | .l n => match M[n]? with
    | some (.lst _) => true
    | _ => false
def rngD (i : Int) : Option (List PyData) := if 0 ≤ i ∧ i ≤ 100000 then some ((List.range i.toNat).map fun (k : Nat) => .int ((k : Nat) : Int)) else none
def findD (d : PyData) : List PyData → Nat → Option Nat
  | [], _ => none
  | x :: r, i => if PyData.eqv x d then some i else findD d r (i + 1)
def indexD (ds : List PyData) (d : PyData) : Option PyData := if min (PyData.depthAll ds) d.depth ≤ 64 then (findD d ds 0).map fun i => .int i else none
def mtD : Mt → PyData → PyData → Option PyData
  | .index, .list ds, d => indexD ds d
  | .index, .tuple ds, d => indexD ds d
  | _, _, _ => none
/-- a sequence -/
def isSeqW (M : List Cell) : W → Bool
  | .d (.list _) => true
  | .d (.tuple _) => true
  | .l n => match M[n]? with
    | some (.lst _) => true
    | _ => false
  | _ => false
/-- an item of a sequence -/
def ixW (M : List Cell) : W → PyData → Option W
  | .d (.list xs), .int i => (atI xs i).map .d
  | .d (.tuple xs), .int i => (atI xs i).map .d
  | .l n, .int i => match M[n]? with
    | some (.lst ws) => atI ws i
    | _ => none
  | _, _ => none
def cutD (xs : List PyData) (lo hi : Option Int) : List PyData := (xs.drop (HT.sIx xs.length 0 lo)).take (HT.sIx xs.length xs.length hi - HT.sIx xs.length 0 lo)
def slD (x : PyData) (lo hi : Option Int) : Option PyData := match x with
  | .list xs => some (.list (cutD xs lo hi))
  | .tuple xs => some (.tuple (cutD xs lo hi))
  | _ => none
/-- where a loop's items come from -/
inductive Src where
  | d (xs : List PyData) | l (n : Nat)
def srcW (M : List Cell) : W → Option Src
  | .d (.list xs) => some (.d xs)
  | .d (.tuple xs) => some (.d xs)
  | .l n => match M[n]? with
    | some (.lst _) => some (.l n)
    | _ => none
  | _ => none
def enumD (xs : List PyData) : List PyData := (xs.zip (List.range xs.length)).map fun p => .tuple [.int p.2, p.1]
def zipD (xs ys : List PyData) : List PyData := (xs.zip ys).map fun p => .tuple [p.1, p.2]

abbrev Env := List (Option W)
def ofO {α : Type} (m : List Cell) : Option α → R α
  | some a => .ok a m
  | none => .bad
def getV (ρ : Env) (i : Nat) (m : List Cell) : R W := match ρ[i]? with
  | some (some w) => .ok w m
  | _ => .bad
def dataOf (m : List Cell) : W → R PyData
  | .d x => .ok x m
  | .l _ => .bad
def boolOf (m : List Cell) : W → R Bool
  | .d (.bool b) => .ok b m
  | _ => .bad
def intOf (m : List Cell) : W → R Int
  | .d (.int i) => .ok i m
  | _ => .bad
def tgD : Tg → W → Env → Option Env
  | .name i, w, ρ => some (ρ.set i (some w))
  | .pair i j, .d (.tuple [x, y]), ρ => some ((ρ.set i (some (.d x))).set j (some (.d y)))
  | _, _, _ => none
def wipeE (ρ : Env) : List Nat → Env
  | [] => ρ
  | v :: vs => (wipeE ρ vs).set v none
/-- no exception -/
def R.nox {α : Type} (r : R α) : R α := match r with
  | .ok a m => .ok a m
  | .exc _ _ => .bad
  | .bad => .bad
/-- what a block leaves behind -/
inductive Fl where
  | nx (ρ : Env) | rt (w : W)
/-- the item at i; none: no item can be looked up -/
def Src.at (m : List Cell) (i : Nat) : Src → Option (Option W)
  | .d xs => some (xs[i]?.map .d)
  | .l n => match m[n]? with
    | some (.lst ws) => some ws[i]?
    | _ => none
/-- over the items -/
def fldN (step : W → List Cell → R Unit) (s : Src) : Nat → Nat → List Cell → R Unit
  | 0, _, _ => .bad
  | k + 1, i, m => match s.at m i with
    | some (some w) => (step w m).bind fun _ m' => fldN step s k (i + 1) m'
    | some none => .ok () m
    | none => .bad
def fldD (step : W → List Cell → R Unit) : List PyData → List Cell → R Unit
  | [], m => .ok () m
  | x :: r, m => (step (.d x) m).bind fun _ m' => fldD step r m'
def fldS (step : W → List Cell → R Unit) (s : Src) (m : List Cell) : R Unit := match s with
  | .d xs => fldD step xs m
  | .l n => fldN step (.l n) (lim + 2) 0 m
/-- a comprehension's list grows -/
def pushC (n : Nat) (w : W) (m : List Cell) : R Unit := match m[n]? with
  | some (.lst ws) => if ws.length < lim then .ok () (m.set n (.lst (ws ++ [w]))) else .bad
  | _ => .bad
/-- a comprehension's list is data from now on -/
def finC (n : Nat) (m : List Cell) : R W := match m[n]? with
  | some (.lst ws) => (match wsD ws with
    | some xs => .ok (.d (.list xs)) (m.set n .dead)
    | none => .bad)
  | _ => .bad
/-- a loop, left by a return -/
def forN (f : Env → W → List Cell → R Fl) (s : Src) : Nat → Nat → Env → List Cell → R Fl
  | 0, _, _, _ => .bad
  | k + 1, i, ρ, m => match s.at m i with
    | some (some w) => (f ρ w m).bind fun fl m' => (match fl with
      | .nx ρ' => forN f s k (i + 1) ρ' m'
      | .rt v => .ok (.rt v) m')
    | some none => .ok (.nx ρ) m
    | none => .bad
def forD (f : Env → W → List Cell → R Fl) : List PyData → Env → List Cell → R Fl
  | [], ρ, m => .ok (.nx ρ) m
  | x :: r, ρ, m => (f ρ (.d x) m).bind fun fl m' => (match fl with
    | .nx ρ' => forD f r ρ' m'
    | .rt v => .ok (.rt v) m')
def forS (f : Env → W → List Cell → R Fl) (s : Src) (ρ : Env) (m : List Cell) : R Fl := match s with
  | .d xs => forD f xs ρ m
  | .l n => forN f (.l n) (lim + 2) 0 ρ m
def whl (c : Env → List Cell → R Bool) (f : Env → List Cell → R Fl) : Nat → Env → List Cell → R Fl
  | 0, _, _ => .bad
  | k + 1, ρ, m => (c ρ m).bind fun b m1 => if b then (f ρ m1).bind fun s m2 => (match s with
    | .nx ρ' => whl c f k ρ' m2
    | .rt v => .ok (.rt v) m2) else .ok (.nx ρ) m1
/-- a cell is written -/
def putL (b n : Nat) (m : List Cell) (f : List W → Option (List W)) : R Unit := if b ≤ n then (match m[n]? with
  | some (.lst ws) => (match f ws with
    | some ws' => .ok () (m.set n (.lst ws'))
    | none => .bad)
  | _ => .bad) else .bad
def pushW (w : W) (ws : List W) : Option (List W) := if ws.length ≤ lim then some (ws ++ [w]) else none
def setW (i : Int) (w : W) (ws : List W) : Option (List W) := (ixN ws.length i).map fun j => ws.set j w
/-- a list's item is written; a list grows -/
def subX (b : Nat) (ρ : Env) (m : List Cell) (w u v : W) : R Fl := match u, v with
  | .l n, .d (.int i) => (putL b n m (setW i w)).bind fun _ m1 => .ok (.nx ρ) m1
  | _, _ => .bad
def appX (b : Nat) (ρ : Env) (m : List Cell) (r : R W) (u : W) : R Fl := match u with
  | .l n => if isSeqW m (.l n) then r.bind fun w m1 => (putL b n m1 (pushW w)).bind fun _ m2 => .ok (.nx ρ) m2 else .bad
  | _ => .bad
abbrev Tab := Nat → Nat → List W → List Cell → R W
section
variable (T : Tab) (b : Nat)
mutual
def ev : E → Env → List Cell → R W
  | .cst x, _, m => .ok (.d x) m
  | .var i, ρ, m => getV ρ i m
  | .glob _ d, _, m => .ok (.d d) m
  | .tup es, ρ, m => (evs es ρ m).bind fun ws m1 => ofO m1 ((wsD ws).bind fun xs => (ssz xs).map fun xs => .d (.tuple xs))
  | .lst es, ρ, m => (evs es ρ m).bind fun ws m1 => ofO m1 ((wsD ws).bind fun xs => (ssz xs).map fun xs => .d (.list xs))
  | .lstM es, ρ, m => (evs es ρ m).bind fun ws m1 => if ws.length ≤ lim then .ok (.l m1.length) (m1 ++ [.lst ws]) else .bad
  | .bop o x y, ρ, m => (ev x ρ m).bind fun u m1 => (ev y ρ m1).bind fun v m2 => (dataOf m2 u).bind fun u _ => (dataOf m2 v).bind fun v _ => ofO m2 ((binD o u v).map .d)
  | .uop o x, ρ, m => (ev x ρ m).bind fun u m1 => (dataOf m1 u).bind fun u _ => ofO m1 ((uopD o u).map .d)
  | .cmp o x y, ρ, m => (ev x ρ m).bind fun u m1 => (ev y ρ m1).bind fun v m2 => ofO m2 ((cmpW o m2 u v).map fun c => .d (.bool c))
  | .chn o p x y z, ρ, m => (ev x ρ m).bind fun u m1 => (ev y ρ m1).bind fun v m2 => (ofO m2 (cmpW o m2 u v)).bind fun c _ =>
      if c then (ev z ρ m2).bind fun w m3 => ofO m3 ((cmpW p m3 v w).map fun c => .d (.bool c)) else .ok (.d (.bool false)) m2
  | .and x y, ρ, m => (ev x ρ m).bind fun u m1 => (boolOf m1 u).bind fun c _ => if c then (ev y ρ m1).bind fun v m2 => (boolOf m2 v).bind fun d _ => .ok (.d (.bool d)) m2 else .ok (.d (.bool false)) m1
  | .or x y, ρ, m => (ev x ρ m).bind fun u m1 => (boolOf m1 u).bind fun c _ => if c then .ok (.d (.bool true)) m1 else (ev y ρ m1).bind fun v m2 => (boolOf m2 v).bind fun d _ => .ok (.d (.bool d)) m2
  | .not x, ρ, m => (ev x ρ m).bind fun u m1 => (boolOf m1 u).bind fun c _ => .ok (.d (.bool (!c))) m1
  | .ite c x y, ρ, m => (ev c ρ m).bind fun u m1 => (boolOf m1 u).bind fun c _ => if c then ev x ρ m1 else ev y ρ m1
  | .call f es, ρ, m => (evs es ρ m).bind fun ws m1 => T f b ws m1
  | .bi p x, ρ, m => (ev x ρ m).bind fun u m1 => ofO m1 ((rdW m1 u).bind fun u => (biD p u).map .d)
  | .isi x t, ρ, m => (ev x ρ m).bind fun u m1 => if isVal m1 u then .ok (.d (.bool (isiW t u))) m1 else .bad
  | .isiTL x, ρ, m => (ev x ρ m).bind fun u m1 => if isVal m1 u then .ok (.d (.bool (isiW .tuple u || isiW .list u))) m1 else .bad
  | .lrng x, ρ, m => (ev x ρ m).bind fun u m1 => (intOf m1 u).bind fun i _ => ofO m1 ((rngD i).map fun xs => .d (.list xs))
  | .trng x, ρ, m => (ev x ρ m).bind fun u m1 => (intOf m1 u).bind fun i _ => ofO m1 ((rngD i).map fun xs => .d (.tuple xs))
  | .listM x, ρ, m => (ev x ρ m).bind fun u m1 => (match (rdW m1 u).bind (biD .list) with
      | some (.list xs) => .ok (.l m1.length) (m1 ++ [.lst (xs.map .d)])
      | _ => .bad)
  | .mt k x y, ρ, m => (ev x ρ m).bind fun u m1 => if isSeqW m1 u then (ev y ρ m1).bind fun v m2 => ofO m2 ((rdW m2 u).bind fun u => (rdW m2 v).bind fun v => (mtD k u v).map .d) else .bad
  | .ix x y, ρ, m => (ev x ρ m).bind fun u m1 => (ev y ρ m1).bind fun v m2 => (dataOf m2 v).bind fun v _ => ofO m2 (ixW m2 u v)
  | .sl x lo hi, ρ, m => (ev x ρ m).bind fun u m1 => (evo lo ρ m1).bind fun l m2 => (evo hi ρ m2).bind fun h m3 => ofO m3 ((rdW m3 u).bind fun u => (slD u l h).map .d)
  | .comp e t i c own, ρ, m => (evi i ρ m).bind fun s m1 =>
      (fldS (fun w m => match tgD t w (wipeE ρ own) with
        | some ρ' => ((evc c ρ' m).bind fun k m2 => if k then (ev e ρ' m2).bind fun v m3 => pushC m1.length v m3 else .ok () m2).nox
        | none => .bad) s (m1 ++ [.lst []])).bind fun _ m2 => finC m1.length m2
  | .comp2 e t i c t1 i1 c1 own own1, ρ, m => (evi i ρ m).bind fun s m1 =>
      (fldS (fun w m => match tgD t w (wipeE ρ own) with
        | some ρ' => ((evc c ρ' m).bind fun k m2 => if k then (evi i1 ρ' m2).bind fun s1 m3 => fldS (fun w m => match tgD t1 w (wipeE ρ' own1) with
            | some ρ2 => (evc c1 ρ2 m).bind fun k m4 => if k then (ev e ρ2 m4).bind fun v m5 => pushC m1.length v m5 else .ok () m4
            | none => .bad) s1 m3 else .ok () m2).nox
        | none => .bad) s (m1 ++ [.lst []])).bind fun _ m2 => finC m1.length m2
def evs : Es → Env → List Cell → R (List W)
  | .nil, _, m => .ok [] m
  | .cons e r, ρ, m => (ev e ρ m).bind fun w m1 => (evs r ρ m1).bind fun ws m2 => .ok (w :: ws) m2
  | .star e r, ρ, m => (ev e ρ m).bind fun w m1 => (match rdW m1 w with
      | some (.tuple xs) => (evs r ρ m1).bind fun ws m2 => .ok (xs.map .d ++ ws) m2
      | some (.list xs) => (evs r ρ m1).bind fun ws m2 => .ok (xs.map .d ++ ws) m2
      | _ => .bad)
def evo : Oe → Env → List Cell → R (Option Int)
  | .no, _, m => .ok none m
  | .so e, ρ, m => (ev e ρ m).bind fun w m1 => (intOf m1 w).bind fun i _ => .ok (some i) m1
def evc : Oe → Env → List Cell → R Bool
  | .no, _, m => .ok true m
  | .so e, ρ, m => (ev e ρ m).bind fun w m1 => boolOf m1 w
def evi : It → Env → List Cell → R Src
  | .ex e, ρ, m => (ev e ρ m).bind fun w m1 => ofO m1 (srcW m1 w)
  | .rng e, ρ, m => (ev e ρ m).bind fun w m1 => (intOf m1 w).bind fun i _ => ofO m1 ((rngD i).map .d)
  | .enum e, ρ, m => (ev e ρ m).bind fun w m1 => (match rdW m1 w with
      | some (.list xs) => .ok (.d (enumD xs)) m1
      | _ => .bad)
  | .zip x y, ρ, m => (ev x ρ m).bind fun u m1 => (ev y ρ m1).bind fun v m2 => (match rdW m2 u, rdW m2 v with
      | some (.list xs), some (.list ys) => .ok (.d (zipD xs ys)) m2
      | some (.tuple xs), some (.tuple ys) => .ok (.d (zipD xs ys)) m2
      | _, _ => .bad)
end
mutual
def ex : S → Env → List Cell → R Fl
  | .asg i e, ρ, m => (ev T b e ρ m).bind fun w m1 => .ok (.nx (ρ.set i (some w))) m1
  | .par i j x y, ρ, m => (ev T b x ρ m).bind fun u m1 => (ev T b y ρ m1).bind fun v m2 => .ok (.nx ((ρ.set i (some u)).set j (some v))) m2
  | .par3 i j k x y z, ρ, m => (ev T b x ρ m).bind fun u m1 => (ev T b y ρ m1).bind fun v m2 => (ev T b z ρ m2).bind fun w m3 => .ok (.nx (((ρ.set i (some u)).set j (some v)).set k (some w))) m3
  | .sub x y e, ρ, m => (ev T b e ρ m).bind fun w m1 => (ev T b x ρ m1).bind fun u m2 => (ev T b y ρ m2).bind fun v m3 => subX b ρ m3 w u v
  | .aug i e, ρ, m => (getV ρ i m).bind fun u _ => (intOf m u).bind fun i0 _ => (ev T b e ρ m).bind fun v m1 => (intOf m1 v).bind fun j _ => .ok (.nx (ρ.set i (some (.d (.int (i0 + j)))))) m1
  | .append i e, ρ, m => (getV ρ i m).bind fun u _ => appX b ρ m (ev T b e ρ m) u
  | .ex e, ρ, m => (ev T b e ρ m).bind fun _ m1 => .ok (.nx ρ) m1
  | .ite c x y, ρ, m => (ev T b c ρ m).bind fun u m1 => (boolOf m1 u).bind fun c _ => if c then exs x ρ m1 else exs y ρ m1
  | .loop t i body, ρ, m => (evi T b i ρ m).bind fun s m1 => forS (fun ρ w m => match tgD t w ρ with
      | some ρ' => exs body ρ' m
      | none => .bad) s ρ m1
  | .while n c body, ρ, m => whl (fun ρ m => (ev T b c ρ m).bind fun w m1 => boolOf m1 w) (fun ρ m => exs body ρ m) n ρ m
  | .ret e, ρ, m => (ev T b e ρ m).bind fun w m1 => .ok (.rt w) m1
  | .retN, _, m => .ok (.rt (.d .none)) m
  | .raise c, _, m => .exc c m
  | .pass, ρ, m => .ok (.nx ρ) m
  | .never, _, _ => .bad
def exs : Ss → Env → List Cell → R Fl
  | .nil, ρ, m => .ok (.nx ρ) m
  | .cons s r, ρ, m => (ex s ρ m).bind fun f m1 => (match f with
      | .nx ρ' => exs r ρ' m1
      | .rt w => .ok (.rt w) m1)
end
end
/-- a def: how many parameters, how many names, its body; pure: its own cells are dropped at its end -/
structure Fn where
  np : Nat
  nn : Nat
  pure : Bool
  body : Ss
def startE (f : Fn) (ws : List W) : Env := ws.map some ++ List.replicate (f.nn - ws.length) none
def finP (m : List Cell) (m1 : List Cell) (w : W) : R W := match w with
  | .d x => .ok (.d x) m
  | .l i => if i < m.length then .ok (.l i) m else (match endW m1 m.length 8 (.l i) with
    | some x => .ok (.d x) m
    | none => .bad)
def run (T : Tab) (f : Fn) (b : Nat) (ws : List W) (m : List Cell) : R W := if ws.length = f.np then
  (match f.pure with
    | true => (match exs T m.length f.body (startE f ws) m with
      | .ok (.nx _) m1 => finP m m1 (.d .none)
      | .ok (.rt w) m1 => finP m m1 w
      | .exc c _ => .exc c m
      | .bad => .bad)
    | false => (match exs T b f.body (startE f ws) m with
      | .ok (.nx _) m1 => .ok (.d .none) m1
      | .ok (.rt w) m1 => .ok w m1
      | .exc c m1 => .exc c m1
      | .bad => .bad)) else .bad
end PV
namespace PV
open PySem PySem.Spec PyProof.Rows L2

/-! ### growth by new data -/
def Grow (φ : List (Option Addr)) (H H' : Hp) : Prop := ∀ b, Ext b φ H φ H'
def GD (K : PySem.W.Frag) (φ : List (Option Addr)) (M : List Cell) (d : PyData) (Q : VK) (H : Hp) : Prop := ∀ H' v, Grow φ H H' → SR K φ M H' → Dv K (hide φ H') v d → Q v H'
section
variable {K : PySem.W.Frag} {φ φ' : List (Option Addr)} {H H' : Hp} {M M' : List Cell} {b : Nat} {Q : VK}
theorem Grow.refl : Grow φ H H := fun _ => Ext.refl
theorem Grow.trans {H1 H2 : Hp} (x : Grow φ H H1) (y : Grow φ H1 H2) : Grow φ H H2 := fun b => (x b).trans (y b)
theorem GD.sc {d : PyData} {v : V} (g : GD K φ M d Q H) (S : SR K φ M H) (h : Dv K (hide φ H) v d) : Q v H := g H v .refl S h
theorem GD.tup {ds : List PyData} {vs : List V} {p : Addr} {o : Obj} (g : GD K φ M (.tuple ds) Q H) (S : SR K φ M H) (h : DvAll K (hide φ H) vs ds) (ho : TupO o) (hp : H p = none) : Q (.ref p) (upd H p (.frz o (.tup vs))) :=
  g _ _ (fun _ => S.ext hp) (S.data hp) (.tup (.inl ⟨o, S.hid_new hp, ho⟩) (DvAll.mono (S.ext (b := 0) (o := .frz o (.tup vs)) hp).hid ds vs h))
theorem GD.lst {ds : List PyData} {vs : List V} {p : Addr} (g : GD K φ M (.list ds) Q H) (S : SR K φ M H) (h : DvAll K (hide φ H) vs ds) (hp : H p = none) : Q (.ref p) (upd H p (.lst vs)) :=
  g _ _ (fun _ => S.ext hp) (S.data hp) (.lst (.inl (.inl (S.hid_new hp))) (DvAll.mono (S.ext (b := 0) (o := .lst vs) hp).hid ds vs h))
theorem Dv.reads {X : Cx} {pins : List (Addr × Obj)} {σ : L2.St} {s : Shared} {d : PyData} {v : V} {u : Value} (I : Inv X pins σ H s) (h : Dv X.K (hide φ H) v d) (r : RelV v u) : ∃ as, Reads s.heap u d as :=
  Dp.reads I d v u (Dv.dp d v (Dv.mono hide_same d v h)) r
theorem Dv.refT {G : Hp} {v : V} {ds : List PyData} (h : Dv K G v (.tuple ds)) : ∃ a vs, v = .ref a ∧ SqX K G a vs ∧ DvAll K G vs ds := by
  cases h with
  | tup h1 h2 => exact ⟨_, _, rfl, h1, h2⟩
theorem Dv.refL {G : Hp} {v : V} {ds : List PyData} (h : Dv K G v (.list ds)) : ∃ a vs, v = .ref a ∧ SqL K G a vs ∧ DvAll K G vs ds := by
  cases h with
  | lst h1 h2 => exact ⟨_, _, rfl, h1, h2⟩
theorem Dv.eint {G : Hp} {v : V} {i : Int} (h : Dv K G v (.int i)) : v = .int i := by cases h; rfl
theorem Dv.ebl {G : Hp} {v : V} {i : Bool} (h : Dv K G v (.bool i)) : v = .bl i := by cases h; rfl
theorem Dv.enon {G : Hp} {v : V} (h : Dv K G v .none) : v = .non := by cases h; rfl
theorem Dv.estr {G : Hp} {v : V} {x : Str} (h : Dv K G v (.str x)) : v = .str x := by cases h; rfl
end
theorem lim_size : lim < sizeLine := by rw [sizeLine_eq]; decide
theorem ssz_ok {xs ys : List PyData} (h : ssz xs = some ys) : ys = xs ∧ xs.length ≤ lim := by
  unfold ssz at h
  split at h
  · exact ⟨(Option.some.inj h).symm, by assumption⟩
  · cases h

/-! ### operators -/
def bopS : BOp → Operator
  | .add => .Add | .sub => .Sub | .mul => .Mult | .fdiv => .FloorDiv | .mod => .Mod | .pow => .Pow | .shl => .LShift | .shr => .RShift | .band => .BitAnd | .bor => .BitOr
def rB (K : PySem.W.Frag) (o : BOp) : R2 := fun x y H Q => ∃ φ M dx dy dz, SR K φ M H ∧ Dv K (hide φ H) x dx ∧ Dv K (hide φ H) y dy ∧ binD o dx dy = some dz ∧ GD K φ M dz Q H
section
variable {X : Cx}
/-- list + list, of any lists that are read -/
theorem op_catL : OpR X (binaryOp .Add) (fun x y H Q => ∃ l b xs zs, x = .ref l ∧ y = .ref b ∧ SqL X.K H l xs ∧ SqL X.K H b zs ∧ xs.length + zs.length ≤ sizeLine ∧ ∀ p, H p = none → Q (.ref p) (upd H p (.lst (xs ++ zs)))) := by
  intro pins s σ H x y v u Q I rx ry h
  obtain ⟨l, b, xs, zs, rfl, rfl, hH, hB, hz, q⟩ := h
  cases rx
  cases ry
  obtain ⟨its, r, ⟨⟨cls, dd, data, sl⟩, n, ho, hc, hdd, hd⟩, _⟩ := I.list hH
  obtain ⟨its2, r2, ⟨⟨cls2, dd2, data2, sl2⟩, n2, ho2, hc2, hdd2, hd2⟩, _⟩ := I.list hB
  simp only at hc hd hc2 hd2
  subst hc hd hc2 hd2
  have hl := r.length
  have hl2 := r2.length
  refine concat_meets ⟨_, ho, rfl⟩ ⟨_, ho2, rfl⟩ noFill_list_add seq_list_add PySem.F.slot_list_add PySem.F.entry_list_add (PySem.F.args_list_add_2 _ _) (list_addW l b its.toArray its2.toArray n n2 dd dd2 sl sl2 (by rw [List.size_toArray, List.size_toArray]; omega)) ⟨ho, ho2, ?_⟩
  have e : its.toArray ++ its2.toArray = (its ++ its2).toArray := by simp
  rw [e]
  exact ⟨.ref _, _, I.lnew (t' := s.toks) (r.append r2) (by rw [List.length_append]; omega), rfl, q _ I.fresh⟩
/-- a new exact tuple, known to its object -/
theorem Inv.tnew {pins : List (Addr × Obj)} {σ : L2.St} {H : Hp} {s : Shared} {xs : List V} {its : List Value} (I : Inv X pins σ H s) (r : Vals xs its) (hz : xs.length ≤ sizeLine) :
    Inv X pins σ (upd H s.heap.objs.size (.frz { cls := .type "tuple", data := .seq its.toArray } (.tup xs))) { s with heap := s.heap.push { cls := .type "tuple", data := .seq its.toArray } } :=
  I.laid (t' := s.toks) (fun b ob q => Heap.get?_push_of_some _ q) (Nat.le_refl _) ⟨Heap.get?_push_size _ rfl, hz, its, r, IsTup.new _ _⟩
theorem tupO_new (its : Array Value) : TupO { cls := .type "tuple", data := .seq its } := ⟨rfl, rfl⟩
theorem op_catX : OpR X (binaryOp .Add) (fun x y H Q => ∃ a b xs ys, x = .ref a ∧ y = .ref b ∧ SqT X.K H a xs ∧ SqT X.K H b ys ∧ xs.length + ys.length ≤ sizeLine ∧
    (xs = [] → Q (.ref b) H) ∧ (xs ≠ [] → ys = [] → Q (.ref a) H) ∧ (xs ≠ [] → ys ≠ [] → ∀ p o, H p = none → TupO o → Q (.ref p) (upd H p (.frz o (.tup (xs ++ ys)))))) := by
  intro pins s σ H x y v u Q I rx ry h
  obtain ⟨a, b, xs, ys, rfl, rfl, ha, hb, hz, q0, q1, q2⟩ := h
  cases rx
  cases ry
  obtain ⟨its, r1, p1, _⟩ := I.tuple ha
  obtain ⟨its2, r2, p2, _⟩ := I.tuple hb
  by_cases hx : xs = []
  · subst hx
    cases r1
    exact cat_tup0 p1 p2 ⟨.ref b, H, I, rfl, q0 rfl⟩
  · refine HT.cat_tup p1 p2 (fun z => hx (r1.nil_iff.mp z)) (fun z => ⟨.ref a, H, I, rfl, q1 hx (r2.nil_iff.mp z)⟩) (fun z => ?_) (by rw [← r1.length, ← r2.length]; exact hz)
    exact ⟨.ref s.heap.objs.size, _, Inv.tnew I (r1.append r2) (by rw [List.length_append]; exact hz), rfl, q2 hx (fun w => z (r2.nil_iff.mpr w)) _ _ I.fresh (tupO_new _)⟩
theorem op_D (o : BOp) : OpR X (binaryOp (bopS o)) (rB X.K o) := by
  intro pins s σ H x y v u Q I rx ry h
  obtain ⟨φ, M, dx, dy, dz, S, hx, hy, e, g⟩ := h
  unfold binD at e
  split at e
  · rename_i i j
    cases e; cases hx; cases hy
    exact op_add pins s σ H _ _ v u Q I rx ry ⟨i, j, rfl, rfl, g.sc S (.int _)⟩
  · rename_i xs ys
    cases q : ssz (xs ++ ys) with
    | none => rw [q] at e; cases e
    | some zs =>
      rw [q] at e; cases e
      obtain ⟨rfl, hz⟩ := ssz_ok q
      obtain ⟨a, vs, rfl, ha, hvs⟩ := hx.refT
      obtain ⟨b, ws, rfl, hb, hws⟩ := hy.refT
      have l1 := hvs.length
      have l2 := hws.length
      have hz' := lim_size
      rw [List.length_append] at hz
      refine op_catX pins s σ H _ _ v u Q I rx ry ⟨a, b, vs, ws, rfl, rfl, Same.seqT hide_same ha.sq, Same.seqT hide_same hb.sq, by omega, fun e1 => ?_, fun _ e2 => ?_, fun _ _ p o hp ho => g.tup S (hvs.append hws) ho hp⟩
      · subst e1
        cases hvs
        exact g.sc S hy
      · subst e2
        cases hws
        rw [List.append_nil] at g
        exact g.sc S hx
  · rename_i xs ys
    cases q : ssz (xs ++ ys) with
    | none => rw [q] at e; cases e
    | some zs =>
      rw [q] at e; cases e
      obtain ⟨rfl, hz⟩ := ssz_ok q
      obtain ⟨a, vs, rfl, ha, hvs⟩ := hx.refL
      obtain ⟨b, ws, rfl, hb, hws⟩ := hy.refL
      have l1 := hvs.length
      have l2 := hws.length
      have hz' := lim_size
      rw [List.length_append] at hz
      exact op_catL pins s σ H _ _ v u Q I rx ry ⟨a, b, vs, ws, rfl, rfl, Same.seq hide_same ha, Same.seq hide_same hb, by omega, fun p hp => g.lst S (hvs.append hws) hp⟩
  · rename_i i j
    cases e; cases hx; cases hy
    exact op_sub pins s σ H _ _ v u Q I rx ry ⟨i, j, rfl, rfl, g.sc S (.int _)⟩
  · rename_i i j
    split at e
    · rename_i hc
      cases e; cases hx; cases hy
      exact op_mul pins s σ H _ _ v u Q I rx ry ⟨i, j, rfl, rfl, .inr hc, g.sc S (.int _)⟩
    · cases e
  · rename_i i j
    split at e
    · rename_i hc
      cases e; cases hx; cases hy
      exact op_fdiv pins s σ H _ _ v u Q I rx ry ⟨i, j, rfl, rfl, hc, g.sc S (.int _)⟩
    · cases e
  · rename_i i j
    split at e
    · rename_i hc
      cases e; cases hx; cases hy
      exact op_mod pins s σ H _ _ v u Q I rx ry ⟨i, j, rfl, rfl, hc, g.sc S (.int _)⟩
    · cases e
  · rename_i i j
    split at e
    · rename_i hc
      cases e; cases hx; cases hy
      exact op_pow pins s σ H _ _ v u Q I rx ry ⟨i, j, rfl, rfl, hc, g.sc S (.int _)⟩
    · cases e
  · rename_i i j
    split at e
    · rename_i hc
      cases e; cases hx; cases hy
      exact op_shl pins s σ H _ _ v u Q I rx ry ⟨i, j, rfl, rfl, hc, g.sc S (.int _)⟩
    · cases e
  · rename_i i j
    split at e
    · rename_i hc
      cases e; cases hx; cases hy
      exact op_shr pins s σ H _ _ v u Q I rx ry ⟨i, j, rfl, rfl, hc, g.sc S (.int _)⟩
    · cases e
  · rename_i i j
    cases e; cases hx; cases hy
    exact op_and pins s σ H _ _ v u Q I rx ry ⟨i, j, rfl, rfl, g.sc S (.int _)⟩
  · rename_i i j
    cases e; cases hx; cases hy
    exact op_or pins s σ H _ _ v u Q I rx ry ⟨i, j, rfl, rfl, g.sc S (.int _)⟩
  · cases e
def uopS : UOp → UnaryOp
  | .neg => .USub | .inv => .Invert
def rU1 (K : PySem.W.Frag) (o : UOp) : V → Hp → VK → Prop := fun x H Q => ∃ φ M dx dz, SR K φ M H ∧ Dv K (hide φ H) x dx ∧ uopD o dx = some dz ∧ GD K φ M dz Q H
theorem un_D (o : UOp) : UnR X (unaryOp (uopS o)) (rU1 X.K o) := by
  intro pins s σ H x v Q I rx h
  obtain ⟨φ, M, dx, dz, S, hx, e, g⟩ := h
  unfold uopD at e
  split at e
  · rename_i i
    cases e; cases hx
    exact un_neg pins s σ H _ v Q I rx ⟨i, rfl, g.sc S (.int _)⟩
  · rename_i i
    cases e; cases hx
    exact un_inv pins s σ H _ v Q I rx ⟨i, rfl, g.sc S (.int _)⟩
  · cases e

/-! ### comparisons -/
def copS : COp → CmpOp
  | .eq => .Eq | .ne => .NotEq | .lt => .Lt | .le => .LtE | .gt => .Gt | .ge => .GtE | .isN => .Is | .notN => .IsNot | .mem => .In | .nmem => .NotIn
/-- a value that reads as data (a cell too) -/
def Rdv (K : PySem.W.Frag) (H : Hp) (v : V) (d : PyData) : Prop := Dp K H v d ∧ d.canLay0 = true
theorem Dv.rdv {K : PySem.W.Frag} {φ : List (Option Addr)} {H : Hp} {v : V} {d : PyData} (h : Dv K (hide φ H) v d) : Rdv K H v d := ⟨Dv.dp d v (Dv.mono hide_same d v h), Dv.lay d v h⟩
theorem wsD_vals {K : PySem.W.Frag} {φ : List (Option Addr)} {H : Hp} : ∀ {ws : List W} {vs : List V} {ds : List PyData}, RWs K φ H ws vs → wsD ws = some ds → DvAll K (hide φ H) vs ds
  | [], _, _, r, e => by cases r; cases e; exact .nil
  | .d x :: ws, _, ds, r, e => by
    cases r with
    | cons r1 r2 =>
      have e' : (wsD ws).map (x :: ·) = some ds := e
      obtain ⟨ds', h1, h2⟩ := Option.map_eq_some_iff.mp e'
      subst h2
      exact .cons r1 (wsD_vals r2 h1)
  | .l _ :: ws, _, ds, r, e => by cases e
theorem rdW_ok {K : PySem.W.Frag} {φ : List (Option Addr)} {M : List Cell} {H : Hp} {w : W} {v : V} {d : PyData} (S : SR K φ M H) (r : RW K φ H w v) (e : rdW M w = some d) : Rdv K H v d := by
  cases w with
  | d x => cases e; exact Dv.rdv r
  | l n =>
    unfold rdW at e
    simp only at e
    split at e
    · rename_i ws hm
      obtain ⟨ds, h1, h2⟩ := Option.map_eq_some_iff.mp e
      subst h2
      obtain ⟨o, ho, hr⟩ := r
      rcases S.cell n _ hm with ⟨z, _⟩ | ⟨a, ha, vs, hv, rs⟩
      · cases z
      · rw [ho] at ha
        cases ha
        rw [hr a rfl]
        have q := wsD_vals rs h1
        exact ⟨.lst (.inl (.inl hv)) (DvAll.dp ds vs (DvAll.mono hide_same ds vs q)), by simp only [PyData.canLay0]; exact DvAll.lay ds vs q⟩
    · cases e
theorem Rdv.reads {pins : List (Addr × Obj)} {σ : L2.St} {s : Shared} {H : Hp} {d : PyData} {v : V} {u : Value} (I : Inv X pins σ H s) (h : Rdv X.K H v d) (r : RelV v u) : ∃ as, Reads s.heap u d as := Dp.reads I d v u h.1 r
def rC (K : PySem.W.Frag) (o : COp) : R2 := fun x y H Q => ∃ dx dy c, Rdv K H x dx ∧ Rdv K H y dy ∧ cmpD o dx dy = some c ∧ Q (.bl c) H
theorem rdv_isN {K : PySem.W.Frag} {H : Hp} {v : V} {d : PyData} (h : Rdv K H v d) : decide (v = .non) = isNone d := by
  obtain ⟨h, _⟩ := h
  cases h <;> rfl
theorem op_C (o : COp) (hu : X.A.units + 65 < cLine) : OpR X (compareOp (copS o)) (rC X.K o) := by
  intro pins s σ H x y v u Q I rx ry h
  obtain ⟨dx, dy, c, hx, hy, e, q⟩ := h
  obtain ⟨as, r1⟩ := hx.reads I rx
  obtain ⟨bs, r2⟩ := hy.reads I ry
  have fin : EP X pins σ Q (.bool c) s := ⟨.bl c, H, I, rfl, q⟩
  unfold cmpD at e
  split at e
  · split at e
    · cases e
      exact SeqAt.compareEq_reads r1 r2 hx.2 hy.2 (by omega) fin
    · cases e
  · split at e
    · cases e
      exact SeqAt.compareNe_reads r1 r2 hx.2 hy.2 (by omega) fin
    · cases e
  · rename_i i j
    cases e; cases hx.1; cases hy.1
    exact op_lt pins s σ H _ _ v u Q I rx ry ⟨i, j, rfl, rfl, q⟩
  · rename_i i j
    cases e; cases hx.1; cases hy.1
    exact op_le pins s σ H _ _ v u Q I rx ry ⟨i, j, rfl, rfl, q⟩
  · rename_i i j
    cases e; cases hx.1; cases hy.1
    exact op_gt pins s σ H _ _ v u Q I rx ry ⟨i, j, rfl, rfl, q⟩
  · rename_i i j
    cases e; cases hx.1; cases hy.1
    exact op_ge pins s σ H _ _ v u Q I rx ry ⟨i, j, rfl, rfl, q⟩
  · cases e
    cases hy.1
    exact op_isN pins s σ H _ _ v u Q I rx ry ⟨rfl, by rw [rdv_isN hx]; exact q⟩
  · cases e
    cases hy.1
    exact op_notN pins s σ H _ _ v u Q I rx ry ⟨rfl, by rw [rdv_isN hx]; exact q⟩
  · split at e
    · cases e
      exact SeqAt.in_list_reads r2 r1 (by simpa [PyData.canLay0] using hy.2) hx.2 (by omega) fin
    · cases e
  · split at e
    · cases e
      exact SeqAt.in_tuple_reads r2 r1 (by simpa [PyData.canLay0] using hy.2) hx.2 (by omega) fin
    · cases e
  · split at e
    · cases e
      exact SeqAt.notIn_list_reads r2 r1 (by simpa [PyData.canLay0] using hy.2) hx.2 (by omega) fin
    · cases e
  · split at e
    · cases e
      exact SeqAt.notIn_tuple_reads r2 r1 (by simpa [PyData.canLay0] using hy.2) hx.2 (by omega) fin
    · cases e
  · cases e
end
end PV
namespace PV
open PySem PySem.Spec PyProof.Rows L2

/-! ### values that read as data: data, or a cell -/
inductive Rv (K : PySem.W.Frag) (φ : List (Option Addr)) (H : Hp) : V → PyData → Prop
  | dat {v : V} {d : PyData} : Dv K (hide φ H) v d → Rv K φ H v d
  | cell {a : Addr} {vs : List V} {ds : List PyData} : H a = some (.lst vs) → DvAll K (hide φ H) vs ds → Rv K φ H (.ref a) (.list ds)
section
variable {K : PySem.W.Frag} {φ φ' : List (Option Addr)} {H H' : Hp} {M M' : List Cell} {b : Nat} {Q : VK}
theorem rdW_rv {w : W} {v : V} {d : PyData} (S : SR K φ M H) (r : RW K φ H w v) (e : rdW M w = some d) : Rv K φ H v d := by
  cases w with
  | d x => cases e; exact .dat r
  | l n =>
    unfold rdW at e
    simp only at e
    split at e
    · rename_i ws hm
      obtain ⟨ds, h1, h2⟩ := Option.map_eq_some_iff.mp e
      subst h2
      obtain ⟨o, ho, hr⟩ := r
      rcases S.cell n _ hm with ⟨z, _⟩ | ⟨a, ha, vs, hv, rs⟩
      · cases z
      · rw [ho] at ha
        cases ha
        rw [hr a rfl]
        exact .cell hv (wsD_vals rs h1)
    · cases e
theorem Rv.rdv {v : V} {d : PyData} (h : Rv K φ H v d) : Rdv K H v d := by
  cases h with
  | dat h => exact Dv.rdv h
  | cell h1 h2 => exact ⟨.lst (.inl (.inl h1)) (DvAll.dp _ _ (DvAll.mono hide_same _ _ h2)), by simp only [PyData.canLay0]; exact DvAll.lay _ _ h2⟩
theorem Rv.seq {v : V} {ds : List PyData} (h : Rv K φ H v (.list ds)) : ∃ a vs, v = .ref a ∧ SqL K H a vs ∧ DvAll K (hide φ H) vs ds := by
  cases h with
  | dat h =>
    obtain ⟨a, vs, rfl, h1, h2⟩ := h.refL
    exact ⟨a, vs, rfl, Same.seq hide_same h1, h2⟩
  | cell h1 h2 => exact ⟨_, _, rfl, .inl (.inl h1), h2⟩
theorem Rv.tup {v : V} {ds : List PyData} (h : Rv K φ H v (.tuple ds)) : ∃ a vs, v = .ref a ∧ SqT K H a vs ∧ DvAll K (hide φ H) vs ds ∧ Dv K (hide φ H) v (.tuple ds) := by
  cases h with
  | dat h =>
    obtain ⟨a, vs, rfl, h1, h2⟩ := h.refT
    exact ⟨a, vs, rfl, Same.seqT hide_same h1.sq, h2, h⟩
theorem Rv.eint {v : V} {i : Int} (h : Rv K φ H v (.int i)) : v = .int i := by cases h with | dat h => exact h.eint

/-! ### sorting -/
theorem insD_perm (x : PyData) : ∀ l : List PyData, (insD x l).Perm (x :: l)
  | [] => .refl _
  | y :: r => by
    unfold insD
    split
    · exact .trans (.cons _ (insD_perm x r)) (.swap _ _ _)
    · exact .refl _
abbrev leD : PyData → PyData → Bool := PySem.W.dataLe false (fun d : PyData => d)
theorem leD_total : PySem.W.TotalLe leD := PySem.W.sortLe_total _ _ _
theorem leD_eq (x y : PyData) : leD x y = !PySem.W.dataLt y x := rfl
theorem insD_sorted (x : PyData) : ∀ l : List PyData, l.Pairwise (fun a b => leD a b = true) → (insD x l).Pairwise (fun a b => leD a b = true)
  | [], _ => List.pairwise_singleton _ _
  | y :: r, h => by
    unfold insD
    obtain ⟨h1, h2⟩ := List.pairwise_cons.mp h
    split
    · rename_i q
      refine List.pairwise_cons.mpr ⟨fun z hz => ?_, insD_sorted x r h2⟩
      rcases List.mem_cons.mp ((insD_perm x r).mem_iff.mp hz) with e | e
      · subst e
        rcases leD_total.total y z with q' | q'
        · exact q'
        · rw [leD_eq, q] at q'; cases q'
      · exact h1 z e
    · rename_i q
      have hxy : leD x y = true := by
        rw [leD_eq]
        cases e : PySem.W.dataLt y x with
        | true => exact absurd e q
        | false => rfl
      refine List.pairwise_cons.mpr ⟨fun z hz => ?_, h⟩
      rcases List.mem_cons.mp hz with e | e
      · subst e; exact hxy
      · exact leD_total.trans _ _ _ hxy (h1 z e)
theorem insD_filter (c x : PyData) : ∀ l : List PyData, (insD x l).filter (PySem.W.sameRank leD c) = (x :: l).filter (PySem.W.sameRank leD c)
  | [] => rfl
  | y :: r => by
    unfold insD
    split
    · rename_i q
      have ih := insD_filter c x r
      by_cases hy : PySem.W.sameRank leD c y = true
      · by_cases hx : PySem.W.sameRank leD c x = true
        · -- c ~ y, c ~ x, but y < x: not so
          unfold PySem.W.sameRank at hy hx
          rw [Bool.and_eq_true] at hy hx
          have z : leD x y = true := leD_total.trans _ _ _ hx.2 hy.1
          rw [leD_eq, q] at z
          cases z
        · rw [List.filter_cons_of_pos hy, ih, List.filter_cons_of_neg hx, List.filter_cons_of_neg hx, List.filter_cons_of_pos hy]
      · rw [List.filter_cons_of_neg hy, ih]
        by_cases hx : PySem.W.sameRank leD c x = true
        · rw [List.filter_cons_of_pos hx, List.filter_cons_of_pos hx, List.filter_cons_of_neg hy]
        · rw [List.filter_cons_of_neg hx, List.filter_cons_of_neg hx, List.filter_cons_of_neg hy]
    · rfl
theorem srtD_sorted : ∀ l : List PyData, (srtD l).Pairwise (fun a b => leD a b = true)
  | [] => List.Pairwise.nil
  | x :: r => insD_sorted x _ (srtD_sorted r)
theorem srtD_filter (c : PyData) : ∀ l : List PyData, (srtD l).filter (PySem.W.sameRank leD c) = l.filter (PySem.W.sameRank leD c)
  | [] => rfl
  | x :: r => by
    show (insD x (srtD r)).filter _ = _
    rw [insD_filter, List.filter_cons, List.filter_cons, srtD_filter c r]
theorem srtD_merge (l : List PyData) : l.mergeSort leD = srtD l := (PySem.W.sort_unique leD_total (srtD_sorted l) fun c => srtD_filter c l).symm
theorem each_of_dv : ∀ {ds : List PyData} {vs : List V} {us : List Value}, DvAll K (hide φ H) vs ds → Vals vs us → PySem.W.EachIs (fun u d => ∃ v, RelV v u ∧ Dv K (hide φ H) v d) us ds
  | [], _, _, h, r => by cases h; cases r; exact .nil
  | d :: ds, _, _, h, r => by
    cases h with
    | cons h1 h2 =>
      cases r with
      | cons r1 r2 => exact .cons ⟨_, r1, h1⟩ (each_of_dv h2 r2)
theorem dv_of_each : ∀ {us : List Value} {ds : List PyData}, PySem.W.EachIs (fun u d => ∃ v, RelV v u ∧ Dv K (hide φ H) v d) us ds → ∃ vs, Vals vs us ∧ DvAll K (hide φ H) vs ds
  | _, _, .nil => ⟨[], .nil, .nil⟩
  | _, _, .cons ⟨v, r, h⟩ t => by
    obtain ⟨vs, r2, h2⟩ := dv_of_each t
    exact ⟨v :: vs, .cons r r2, .cons h h2⟩
theorem alikeL_ok {ds : List PyData} (h : alikeL ds = true) : PySem.W.AllAlike ds := fun d hd e he => List.all_eq_true.mp (List.all_eq_true.mp h d hd) e he
theorem intsL_at {ds : List PyData} (h : intsL ds = true) {d : PyData} (hd : d ∈ ds) : ∃ i, d = .int i := by
  have q := List.all_eq_true.mp h d hd
  cases d with
  | int i => exact ⟨i, rfl⟩
  | _ => cases q
theorem tupsL_at {ds : List PyData} (h : tupsL ds = true) {d : PyData} (hd : d ∈ ds) : ∃ x r, d = .tuple (x :: r) := by
  have q := List.all_eq_true.mp h d hd
  cases d with
  | tuple xs => cases xs with
    | nil => cases q
    | cons x r => exact ⟨x, r, rfl⟩
  | _ => cases q
theorem depth_mem : ∀ {ds : List PyData} {d : PyData}, d ∈ ds → d.depth ≤ PyData.depthAll ds
  | x :: r, d, h => by
    rw [PyData.depthAll]
    rcases List.mem_cons.mp h with e | e
    · rw [e]; exact Nat.le_max_left _ _
    · exact Nat.le_trans (depth_mem e) (Nat.le_max_right _ _)
theorem sortD_ok {ds : List PyData} {x : PyData} (h : sortD ds = some x) : x = .list (srtD ds) ∧ PySem.W.AllAlike ds ∧ PySem.W.Sortable ds ∧ ∀ d ∈ ds, d.depth ≤ 64 := by
  unfold sortD at h
  split at h
  · rename_i q
    refine ⟨(Option.some.inj h).symm, ?_⟩
    rcases Bool.or_eq_true_iff.mp q with q | q
    · refine ⟨fun d hd e he => ?_, .inr fun d hd => ?_, fun d hd => ?_⟩
      · obtain ⟨i, rfl⟩ := intsL_at q hd
        obtain ⟨j, rfl⟩ := intsL_at q he
        rfl
      · obtain ⟨i, rfl⟩ := intsL_at q hd
        exact ⟨fun z => (by cases z), fun _ z => (by cases z)⟩
      · obtain ⟨i, rfl⟩ := intsL_at q hd
        simp [PyData.depth]
    · rw [Bool.and_eq_true, Bool.and_eq_true] at q
      exact ⟨alikeL_ok q.1.1, .inl fun d hd => tupsL_at q.1.2 hd, fun d hd => Nat.le_trans (depth_mem hd) (of_decide_eq_true q.2)⟩
  · cases h
end
section
variable {prog : Program} {w : World} {A : Around} {E : Value → Shared → Prop} {s : Shared}
theorem collect_tup {l : Addr} {vs : List Value} {Q : List Value → Shared → Prop} (hl : IsTup s.heap l vs.toArray)
    (h : Q vs { s with heap := (s.heap.push (seqObj "list" #[] 0)).update s.heap.objs.size (Obj.mapSeq (· ++ vs.toArray)) }) (hsz : vs.length ≤ sizeLine) :
    wpAny (model prog w) A (collect (.ref l)) Q E s := by
  obtain ⟨o, ho, hc, n, hd⟩ := id hl
  unfold collect
  refine wpAny_bind (wpAny_runValue (codeAny_builtin entry_proto_collect' ?_))
  show wpAny _ _ (do again (.builtin "list.__iadd__" ⟨[← newList [], .ref l], []⟩)) _ _ s
  refine wpAny_bind (wpAny_newList (wpAny_pure ⟨Code.quiet_builtin _ (by decide +kernel), codeAny_builtin entry_list_iadd' ?_⟩))
  show wpAny _ _ (Builtin.List.listExtendWith (.ref s.heap.objs.size) (.ref l) (.ref s.heap.objs.size)) _ _ { s with heap := s.heap.push (seqObj "list" #[] 0) }
  unfold Builtin.List.listExtendWith
  have ho' : (s.heap.push (seqObj "list" #[] 0)).get? l = some o := Heap.get?_push_of_some _ ho
  refine wpAny_bind (wpAny_typeOf (T := "tuple") ⟨o, ho', hc⟩ ?_)
  have ht : (Value.type "tuple" == Value.type "tuple") = true := by rfl
  rw [if_pos (by rw [ht]; simp)]
  refine wpAny_bind (listItems_at ho' hd ?_)
  refine wpAny_bind (listItems_at (xs := #[]) (n := 0) (Heap.get?_push_size _ rfl) rfl ?_)
  rw [if_neg (by simp)]
  refine wpAny_bind (listUpdate_at (xs := #[]) (n := 0) (Heap.get?_push_size _ rfl) rfl ?_ (Nat.zero_le _) (by show (#[] ++ vs.toArray).size ≤ sizeLine + 1; simp only [Array.size_append, List.size_toArray, List.length_nil]; omega))
  refine wpAny_pure ?_
  show wpAny (model prog w) A (do
      let o ← load s.heap.objs.size
      match o.data with
      | .seq xs _ => pure xs.toList
      | _ => unsupported "internal:collect") Q E { s with heap := (s.heap.push (seqObj "list" #[] 0)).update s.heap.objs.size (Obj.mapSeq (· ++ vs.toArray)) }
  refine wpAny_bind (wpAny_load (get?_update_seq (Heap.get?_push_size _ rfl) _) ?_)
  show wpAny _ _ (pure ((#[] : Array Value) ++ vs.toArray).toList) Q E _
  rw [show ((#[] : Array Value) ++ vs.toArray).toList = vs by simp]
  exact wpAny_pure h
open PySem.W in
theorem sorted_of_sortT {l : Addr} {vs : List Value} {kw : List (Str × Value)} {Q : Value → Shared → Prop} (hl : IsTup s.heap l vs.toArray) (hL : vs.length ≤ sizeLine) (ha1 : argsOk "sorted" ⟨[.ref l], kw⟩) (ha2 : ∀ x, argsOk "list.sort" ⟨[.ref x], kw⟩)
    (body : ∀ E' : Value → Shared → Prop, wpAny (model prog w) A.in1.in1 (Builtin.«list.sort» ⟨[.ref (s.heap.objs.size + 1)], kw⟩) (fun f s' => f = .done (.ret .none) ∧ Q (.ref (s.heap.objs.size + 1)) s') E' { s with heap := copyHeap s.heap vs }) :
    wpAny (model prog w) A (call (.builtin "sorted") [.ref l] kw) Q E s := by
  refine call_function_entry_kw kind_sorted plain_sorted entry_sorted ha1 ?_
  unfold Builtin.«sorted»
  refine wpAny_bind (m := checkCount "sorted" 1 1 _) (wpAny_pure ?_)
  refine wpAny_bind (collect_tup hl ?_ hL)
  refine wpAny_bind (wpAny_newList ?_ hL)
  have hsz : ((s.heap.push (seqObj "list" #[] 0)).update s.heap.objs.size (Obj.mapSeq (· ++ vs.toArray))).objs.size = s.heap.objs.size + 1 := by
    rw [Heap.size_update, size_push']
  show wpAny _ _ _ _ _ { s with heap := copyHeap s.heap vs }
  rw [hsz]
  refine wpAny_bind (wpAny_holding (wpAny_call_entry_kw slot_list_sort ⟨_, copyHeap_at s.heap vs, rfl⟩ entry_list_sort ?body (ha2 _)))
  case body =>
    show wpAny (model prog w) A.in1.in1 (Builtin.«list.sort» ⟨[.ref (s.heap.objs.size + 1)], kw⟩) _ _ _
    refine wpAny_mono (body _) (fun f s' hf => ?_) fun _ _ e => e
    obtain ⟨rfl, hq⟩ := hf
    exact ⟨_, rfl, wpAny_pure ⟨_, rfl, hq⟩⟩
open PySem.W in
theorem sortedT_data {β : Type} {vs : List Value} {bs : List β} {enc : β → PyData} {R : Value → β → Prop} {l : Addr} {Q : Value → Shared → Prop} (hl : IsTup s.heap l vs.toArray) (e : EachIs R vs bs) (er : EachIs (fun v b => ∃ as, Reads s.heap v (enc b) as) vs bs) (hal : AllAlike (bs.map enc)) (hk : Sortable (bs.map enc)) (hL : bs.length ≤ sizeLine)
    (hu : ∀ b, b ∈ bs → A.units + 2 + (enc b).depth < cLine) (h : ∀ out, out.length = bs.length → EachIs R out (bs.mergeSort (dataLe false enc)) → Q (.ref (s.heap.objs.size + 1)) { s with heap := sortedAll s.heap vs (List.toArray out) }) :
    wpAny (model prog w) A (call (.builtin "sorted") [.ref l]) Q E s := by
  have er' : EachIs (fun v b => ∃ as, Reads (sortingHeap (copyHeap s.heap vs) (s.heap.objs.size + 1) vs) v (enc b) as) vs bs := er.mono fun _ _ ⟨as, r⟩ => ⟨as, PyProof.Rows.Reads.keeps (fun _ _ => sorting_copy_old) r⟩
  have hL' : vs.length ≤ sizeLine := by rw [e.length]; exact hL
  exact sorted_of_sortT hl hL' (args_sorted1 _) (fun _ => args_list_sort _) fun _ => list_sort_vals (κ := dataKind (sortingHeap (copyHeap s.heap vs) (s.heap.objs.size + 1) vs) (bs.map enc)) (s := { s with heap := copyHeap s.heap vs }) (copyHeap_at s.heap vs)
    (SortsAt.data (s := { s with heap := sortingHeap (copyHeap s.heap vs) (s.heap.objs.size + 1) vs }) (each_map (R := fun v d => ∃ as, Reads (sortingHeap (copyHeap s.heap vs) (s.heap.objs.size + 1) vs) v d as) enc er') hal hk (bound_map hu)) hL' ⟨rfl, (h _ (by rw [sortVals_length false rfl]; exact e.length) (sortVals_data false e er' hal))⟩
end

/-! ### built-ins -/
section
variable {X : Cx}
def rSrt (K : PySem.W.Frag) : List V → Hp → VK → Prop := fun xs H Q => ∃ φ M v ds dz, xs = [v] ∧ SR K φ M H ∧ (Rv K φ H v (.list ds) ∨ Rv K φ H v (.tuple ds)) ∧ sortD ds = some dz ∧ GD K φ M dz Q H
theorem call_srt (hu : X.A.units + 70 < cLine) : CallR X (.builtin "sorted") (rSrt X.K) := by
  intro pins s σ H xs us Q I r h
  obtain ⟨φ, M, v, ds, dz, rfl, S, hv, e, g⟩ := h
  obtain ⟨rfl, hal, hk, hdep⟩ := sortD_ok e
  obtain ⟨u, rfl, rx⟩ := vals1 r
  have id_map : ds.map (fun d : PyData => d) = ds := List.map_id _
  -- the end, the same for both
  have fin : ∀ (its : List Value) (vs : List V), DvAll X.K (hide φ H) vs ds → Vals vs its → its.length ≤ sizeLine → ∀ out : List Value, out.length = ds.length →
      PySem.W.EachIs (fun u d => ∃ v, RelV v u ∧ Dv X.K (hide φ H) v d) out (ds.mergeSort (PySem.W.dataLe false fun d : PyData => d)) →
      EP X pins σ Q (.ref (s.heap.objs.size + 1)) { s with heap := sortedAll s.heap its (List.toArray out) } := fun its vs hd hr hz out ho eo => by
    obtain ⟨ws, r2, h2⟩ := dv_of_each eo
    rw [srtD_merge] at h2
    obtain ⟨c, hc⟩ := sortedAll_at s.heap its out.toArray
    have hp : H (s.heap.objs.size + 1) = none := I.hok.fresh (Nat.le_succ _)
    refine ⟨.ref (s.heap.objs.size + 1), upd H (s.heap.objs.size + 1) (.lst ws), I.laid (t' := s.toks) (fun b o q => sortedAll_old q) (Nat.le_succ _) ⟨?_, out, c, r2, hc⟩, rfl, g.lst S h2 hp⟩
    have := r2.length
    have h3 := hd.length
    have h4 := hr.length
    omega
  have reads : ∀ (its : List Value) (vs : List V), DvAll X.K (hide φ H) vs ds → Vals vs its → PySem.W.EachIs (fun v b => ∃ as, Reads s.heap v b as) its ds := fun its vs hd hr =>
    (each_of_dv hd hr).mono fun u d ⟨v, rv, hv⟩ => Dv.reads I hv rv
  have hu' : ∀ b, b ∈ ds → X.A.units + 2 + b.depth < cLine := fun b hb => by have := hdep b hb; omega
  rcases hv with hv | hv
  · obtain ⟨a, vs, rfl, hs, hd⟩ := hv.seq
    cases rx
    obtain ⟨its, hr, pl, hz⟩ := I.list hs
    have l1 := hr.length
    have l2 := hd.length
    exact PySem.W.sorted_data (enc := fun d : PyData => d) pl.isList (each_of_dv hd hr) (reads its vs hd hr) (by rw [id_map]; exact hal) (by rw [id_map]; exact hk) (by omega) hu' (fin its vs hd hr (by omega))
  · obtain ⟨a, vs, rfl, hs, hd, _⟩ := hv.tup
    cases rx
    obtain ⟨its, hr, pl, hz⟩ := I.tuple hs
    have l1 := hr.length
    have l2 := hd.length
    exact sortedT_data (enc := fun d : PyData => d) pl (each_of_dv hd hr) (reads its vs hd hr) (by rw [id_map]; exact hal) (by rw [id_map]; exact hk) (by omega) hu' (fin its vs hd hr (by omega))
/-- tuple(x): of a list a new exact tuple, of a tuple itself -/
theorem call_tupX : CallR X (.type "tuple") (fun xs H Q => ∃ p ys, xs = [.ref p] ∧ ((SqL X.K H p ys ∧ ∀ l o, H l = none → TupO o → Q (.ref l) (upd H l (.frz o (.tup ys)))) ∨ (SqT X.K H p ys ∧ Q (.ref p) H))) := by
  intro pins s σ H xs us Q I r h
  obtain ⟨p, ys, rfl, h⟩ := h
  obtain ⟨u, rfl, rx⟩ := vals1 r
  cases rx
  rcases h with ⟨hq, q⟩ | ⟨hq, q⟩
  · obtain ⟨its, r', pl, hz⟩ := I.list hq
    have hlen := r'.length
    refine call_tuple_list pl.isList (fun h' kp => ?_) (by simp only [List.size_toArray] <;> omega)
    have I1 : Inv X pins σ H { s with heap := h' } := I.kept (t' := s.toks) kp
    exact ⟨.ref h'.objs.size, _, Inv.tnew I1 r' hz, rfl, q _ _ I1.fresh (tupO_new _)⟩
  · obtain ⟨its, r', pl, hz⟩ := I.tuple hq
    exact call_tuple_same pl ⟨.ref p, H, I, rfl, q⟩
def rBi (K : PySem.W.Frag) (p : Bi) : List V → Hp → VK → Prop := fun xs H Q => ∃ φ M v dx dz, xs = [v] ∧ SR K φ M H ∧ Rv K φ H v dx ∧ biD p dx = some dz ∧ GD K φ M dz Q H
def biV : Bi → Value
  | .len => .builtin "len" | .int => .type "int" | .str => .type "str" | .list => .type "list" | .tuple => .type "tuple" | .sorted => .builtin "sorted" | .all => .builtin "all" | .any => .builtin "any"
theorem pBs_ok {K : PySem.W.Frag} {G : Hp} : ∀ {ds : List PyData} {vs : List V} {bs : List Bool}, DvAll K G vs ds → pBs ds = some bs → vs = bs.map V.bl
  | [], _, _, h, e => by cases h; cases e; rfl
  | d :: ds, _, bs, h, e => by
    cases h with
    | cons h1 h2 =>
      cases d with
      | bool c =>
        have e' : (pBs ds).map (c :: ·) = some bs := e
        obtain ⟨bs', q1, q2⟩ := Option.map_eq_some_iff.mp e'
        subst q2
        rw [pBs_ok h2 q1, h1.ebl]
        rfl
      | _ => cases e
theorem call_bi (p : Bi) (hu : X.A.units + 70 < cLine) (hc : X.calm = true) : CallR X (biV p) (rBi X.K p) := by
  intro pins s σ H xs us Q I r h
  obtain ⟨φ, M, v, dx, dz, rfl, S, hv, e, g⟩ := h
  unfold biD at e
  split at e
  · rename_i ds
    cases e
    obtain ⟨a, vs, rfl, hs, hd⟩ := hv.seq
    have l := hd.length
    exact call_len_seq pins s σ H _ us Q I r ⟨a, vs, rfl, .inl hs, by rw [l]; exact g.sc S (.int _)⟩
  · rename_i ds
    cases e
    obtain ⟨a, vs, rfl, hs, hd, _⟩ := hv.tup
    have l := hd.length
    exact call_len_seq pins s σ H _ us Q I r ⟨a, vs, rfl, .inr hs, by rw [l]; exact g.sc S (.int _)⟩
  · rename_i i
    cases e
    cases hv.eint
    exact call_int1 pins s σ H _ us Q I r (.inl ⟨i, rfl, g.sc S (.int _)⟩)
  · rename_i ds
    cases e
    obtain ⟨a, vs, rfl, hs, hd⟩ := hv.seq
    exact call_list_of pins s σ H _ us Q I r ⟨a, vs, rfl, .inl hs, fun p hp => g.lst S hd hp⟩
  · rename_i ds
    cases e
    obtain ⟨a, vs, rfl, hs, hd, _⟩ := hv.tup
    exact call_list_of pins s σ H _ us Q I r ⟨a, vs, rfl, .inr hs, fun p hp => g.lst S hd hp⟩
  · rename_i ds
    cases e
    obtain ⟨a, vs, rfl, hs, hd⟩ := hv.seq
    exact call_tupX pins s σ H _ us Q I r ⟨a, vs, rfl, .inl ⟨hs, fun p o hp ho => g.tup S hd ho hp⟩⟩
  · rename_i ds
    cases e
    obtain ⟨a, vs, rfl, hs, hd, hvd⟩ := hv.tup
    exact call_tupX pins s σ H _ us Q I r ⟨a, vs, rfl, .inr ⟨hs, g.sc S hvd⟩⟩
  · rename_i ds
    exact call_srt hu pins s σ H _ us Q I r ⟨φ, M, v, ds, dz, rfl, S, .inl hv, e, g⟩
  · rename_i ds
    exact call_srt hu pins s σ H _ us Q I r ⟨φ, M, v, ds, dz, rfl, S, .inr hv, e, g⟩
  · rename_i ds
    obtain ⟨bs, q1, q2⟩ := Option.map_eq_some_iff.mp e
    subst q2
    obtain ⟨a, vs, rfl, hs, hd⟩ := hv.seq
    rw [pBs_ok hd q1] at hs
    exact cr_all hc pins s σ H _ us Q I r ⟨a, bs, rfl, hs, g.sc S (.bl _)⟩
  · rename_i ds
    obtain ⟨bs, q1, q2⟩ := Option.map_eq_some_iff.mp e
    subst q2
    obtain ⟨a, vs, rfl, hs, hd⟩ := hv.seq
    rw [pBs_ok hd q1] at hs
    exact cr_any hc pins s σ H _ us Q I r ⟨a, bs, rfl, hs, g.sc S (.bl _)⟩
  · cases e
end
end PV
namespace PV
open PySem PySem.Spec PyProof.Rows L2

/-! ### isinstance -/
def tyN : PyData → String
  | .none => "NoneType" | .bool _ => "bool" | .int _ => "int" | .str _ => "str" | .list _ => "list" | .tuple _ => "tuple" | .dict _ => "dict"
def tyS : Ty → String
  | .int => "int" | .bool => "bool" | .str => "str" | .tuple => "tuple" | .list => "list"
theorem kit_non (t : Ty) : kitB "NoneType" (tyS t) = some (isiD t .none) := by cases t <;> decide +kernel
theorem kit_bool (t : Ty) : kitB "bool" (tyS t) = some (isiD t (.bool true)) := by cases t <;> decide +kernel
theorem kit_int (t : Ty) : kitB "int" (tyS t) = some (isiD t (.int 0)) := by cases t <;> decide +kernel
theorem kit_str (t : Ty) : kitB "str" (tyS t) = some (isiD t (.str Str.empty)) := by cases t <;> decide +kernel
theorem kit_list (t : Ty) : kitB "list" (tyS t) = some (isiD t (.list [])) := by cases t <;> decide +kernel
theorem kit_tuple (t : Ty) : kitB "tuple" (tyS t) = some (isiD t (.tuple [])) := by cases t <;> decide +kernel
theorem kit_dict (t : Ty) : kitB "dict" (tyS t) = some (isiD t (.dict [])) := by cases t <;> decide +kernel
theorem kit_is (x : PyData) (t : Ty) : kitB (tyN x) (tyS t) = some (isiD t x) := by
  cases x with
  | none => exact kit_non t
  | bool b => exact (kit_bool t).trans (by cases t <;> rfl)
  | int i => exact (kit_int t).trans (by cases t <;> rfl)
  | str x => exact (kit_str t).trans (by cases t <;> rfl)
  | list xs => exact (kit_list t).trans (by cases t <;> rfl)
  | tuple xs => exact (kit_tuple t).trans (by cases t <;> rfl)
  | dict xs => exact (kit_dict t).trans (by cases t <;> rfl)
theorem Rdv.ty {K : PySem.W.Frag} {H : Hp} {v : V} {d : PyData} (h : Rdv K H v d) : TyX K H v (.type (tyN d)) := by
  obtain ⟨h, _⟩ := h
  cases h with
  | non => exact .base .non
  | bl b => exact .base (.bl b)
  | int i => exact .base (.int i)
  | str x => exact .base (.str x)
  | lst h1 _ =>
    rcases h1 with (e | ⟨o, e⟩) | ⟨o, its, n, e, c, _⟩
    · exact .base (.lst e)
    · exact .base (.frz e)
    · exact .kList e c
  | tup h1 _ =>
    rcases h1 with (e | ⟨o, e⟩) | ⟨o, its, n, e, c, _⟩
    · exact .base (.tup e)
    · exact .fTuple e
    · exact .kTuple e c
/-- a value's type, for isinstance: data or a list's cell -/
inductive Ty1 (K : PySem.W.Frag) (φ : List (Option Addr)) (M : List Cell) (H : Hp) : W → V → String → Prop
  | dat {x : PyData} {v : V} : Dv K (hide φ H) v x → Ty1 K φ M H (.d x) v (tyN x)
  | cell {n : Nat} {ws : List W} {a : Addr} {vs : List V} : M[n]? = some (.lst ws) → H a = some (.lst vs) → Ty1 K φ M H (.l n) (.ref a) "list"
theorem Ty1.ty {K : PySem.W.Frag} {φ : List (Option Addr)} {M : List Cell} {H : Hp} {w : W} {v : V} {T : String} (h : Ty1 K φ M H w v T) : TyX K H v (.type T) := by
  cases h with
  | dat h => exact (Dv.rdv h).ty
  | cell _ h => exact .base (.lst h)
theorem Ty1.kit {K : PySem.W.Frag} {φ : List (Option Addr)} {M : List Cell} {H : Hp} {w : W} {v : V} {T : String} (h : Ty1 K φ M H w v T) (t : Ty) : kitB T (tyS t) = some (isiW t w) := by
  cases h with
  | dat h => exact kit_is _ t
  | cell _ h => exact (kit_list t).trans (by cases t <;> rfl)

/-! ### items, slices, methods -/
section
variable {X : Cx}
theorem DvAll.atI {K : PySem.W.Frag} {G : Hp} {ds : List PyData} {vs : List V} (h : DvAll K G vs ds) {i : Int} {d : PyData} (e : atI ds i = some d) : ∃ v, L2.atI vs i = some v ∧ Dv K G v d := by
  unfold L2.atI at e ⊢
  rw [h.length]
  cases q : ixN ds.length i with
  | none => rw [q] at e; cases e
  | some j =>
    rw [q] at e
    exact h.get e
theorem RWs.atI {K : PySem.W.Frag} {φ : List (Option Addr)} {H : Hp} {ws : List W} {vs : List V} (h : RWs K φ H ws vs) {i : Int} {w : W} (e : L2.atI ws i = some w) : ∃ v, L2.atI vs i = some v ∧ RW K φ H w v := by
  unfold L2.atI at e ⊢
  rw [← h.length]
  cases q : ixN ws.length i with
  | none => rw [q] at e; cases e
  | some j =>
    rw [q] at e
    exact h.get e
theorem SR.cellAt {K : PySem.W.Frag} {φ : List (Option Addr)} {M : List Cell} {H : Hp} {n : Nat} {v : V} {ws : List W} (S : SR K φ M H) (r : RW K φ H (.l n) v) (hm : M[n]? = some (.lst ws)) :
    ∃ a vs, v = .ref a ∧ φ[n]? = some (some a) ∧ H a = some (.lst vs) ∧ RWs K φ H ws vs := by
  obtain ⟨o, ho, hr⟩ := r
  rcases S.cell n _ hm with ⟨z, _⟩ | ⟨a, ha, vs, hv, rs⟩
  · cases z
  · rw [ho] at ha
    cases ha
    exact ⟨a, vs, hr a rfl, ho, hv, rs⟩
def rIxW (K : PySem.W.Frag) : R2 := fun x y H Q => ∃ φ M w d z, SR K φ M H ∧ RW K φ H w x ∧ Dv K (hide φ H) y d ∧ ixW M w d = some z ∧ ∀ v, RW K φ H z v → Q v H
theorem ix_W : IxR X (rIxW X.K) := by
  intro value slice pins s σ H x y v u Q I rx ry h hs
  obtain ⟨φ, M, w, d, z, S, hx, hy, e, g⟩ := h
  unfold ixW at e
  split at e
  · rename_i xs i
    obtain ⟨d', q1, q2⟩ := Option.map_eq_some_iff.mp e
    subst q2
    cases hy
    obtain ⟨a, vs, rfl, h1, h2⟩ := (show Dv X.K (hide φ H) x (.list xs) from hx).refL
    obtain ⟨v', e1, e2⟩ := h2.atI q1
    exact ix_list value slice pins s σ H _ _ v u Q I rx ry ⟨a, vs, i, v', rfl, rfl, Same.seq hide_same h1, e1, g v' e2⟩ hs
  · rename_i xs i
    obtain ⟨d', q1, q2⟩ := Option.map_eq_some_iff.mp e
    subst q2
    cases hy
    obtain ⟨a, vs, rfl, h1, h2⟩ := (show Dv X.K (hide φ H) x (.tuple xs) from hx).refT
    obtain ⟨v', e1, e2⟩ := h2.atI q1
    exact ix_tup value slice pins s σ H _ _ v u Q I rx ry ⟨a, vs, i, v', rfl, rfl, Same.seqT hide_same h1.sq, e1, g v' e2⟩ hs
  · rename_i n i
    split at e
    · rename_i ws hm
      cases hy
      obtain ⟨a, vs, rfl, ha, hv, rs⟩ := S.cellAt hx hm
      obtain ⟨v', e1, e2⟩ := rs.atI e
      exact ix_list value slice pins s σ H _ _ v u Q I rx ry ⟨a, vs, i, v', rfl, rfl, .inl (.inl hv), e1, g v' e2⟩ hs
    · cases e
  · cases e
/-- t[lo:hi]: the whole of it is t itself -/
theorem sl_tupX : SlR X (fun x lo hi H Q => ∃ a xs, x = .ref a ∧ SqT X.K H a xs ∧
    (HT.sIx xs.length 0 lo = 0 ∧ HT.sIx xs.length xs.length hi = xs.length → Q (.ref a) H) ∧ (¬ (HT.sIx xs.length 0 lo = 0 ∧ HT.sIx xs.length xs.length hi = xs.length) → ∀ p o, H p = none → TupO o → Q (.ref p) (upd H p (.frz o (.tup (cutV xs lo hi)))))) := by
  intro pins s σ H x v vl vu lo hi sl Q I rx hs pl pu h
  obtain ⟨a, xs, rfl, hx, q1, q2⟩ := h
  cases rx
  obtain ⟨its, r, ht, hz⟩ := I.tuple hx
  have hlen : its.toArray.size = xs.length := by rw [List.size_toArray]; exact r.length.symm
  refine ⟨"tuple", _, PyProof.Rows.slot_tuple_getitem.lookup, ht.typeIs, ?_⟩
  by_cases hw : HT.sIx xs.length 0 lo = 0 ∧ HT.sIx xs.length xs.length hi = xs.length
  · exact getItem_tuple_whole ht hs pl pu (by rw [hlen]; exact hw) ⟨.ref a, H, I, rfl, q1 hw⟩
  · refine HT.getItem_tuple_cut ht hs pl pu (by rw [hlen]; exact hw) ?_ (by rw [hlen]; exact hz)
    rw [hlen]
    exact ⟨.ref s.heap.objs.size, _, Inv.tnew I (xs := cutV xs lo hi) ((r.drop (HT.sIx xs.length 0 lo)).take (HT.sIx xs.length xs.length hi - HT.sIx xs.length 0 lo)) (Nat.le_trans (cutV_length xs lo hi) hz), rfl, q2 hw _ _ I.fresh (tupO_new _)⟩
theorem DvAll.cut {K : PySem.W.Frag} {G : Hp} {ds : List PyData} {vs : List V} (h : DvAll K G vs ds) (lo hi : Option Int) : DvAll K G (cutV vs lo hi) (cutD ds lo hi) := by
  unfold cutV cutD
  rw [h.length]
  exact (h.drop _).take _
theorem cut_whole {ds : List PyData} {lo hi : Option Int} (h : HT.sIx ds.length 0 lo = 0 ∧ HT.sIx ds.length ds.length hi = ds.length) : cutD ds lo hi = ds := by
  unfold cutD
  rw [h.1, h.2, List.drop_zero, Nat.sub_zero]
  exact List.take_length
def rSlD (K : PySem.W.Frag) : V → Option Int → Option Int → Hp → VK → Prop := fun x lo hi H Q => ∃ φ M d z, SR K φ M H ∧ Rv K φ H x d ∧ slD d lo hi = some z ∧ GD K φ M z Q H
theorem sl_D : SlR X (rSlD X.K) := by
  intro pins s σ H x v vl vu lo hi sl Q I rx hs pl pu h
  obtain ⟨φ, M, d, z, S, hx, e, g⟩ := h
  unfold slD at e
  split at e
  · rename_i ds
    cases e
    obtain ⟨a, vs, rfl, h1, h2⟩ := hx.seq
    exact sl_list pins s σ H _ v vl vu lo hi sl Q I rx hs pl pu ⟨a, vs, rfl, h1, fun p hp => g.lst S (h2.cut lo hi) hp⟩
  · rename_i ds
    cases e
    obtain ⟨a, vs, rfl, h1, h2, h3⟩ := hx.tup
    have l := h2.length
    refine sl_tupX pins s σ H _ v vl vu lo hi sl Q I rx hs pl pu ⟨a, vs, rfl, h1, fun hw => ?_, fun _ p o hp ho => g.tup S (h2.cut lo hi) ho hp⟩
    rw [l] at hw
    rw [cut_whole hw] at g
    exact g.sc S h3
  · cases e

/-! ### methods -/
theorem findD_spec (d : PyData) : ∀ {ds : List PyData} {k i : Nat}, findD d ds k = some i → k ≤ i ∧ ∃ x, ds[i - k]? = some x ∧ PyData.eqv x d = true ∧ ∀ (m : Nat) (x' : PyData), m < i - k → ds[m]? = some x' → PyData.eqv x' d = false
  | [], k, i, h => by cases h
  | x :: r, k, i, h => by
    unfold findD at h
    split at h
    · rename_i q
      cases h
      exact ⟨Nat.le_refl _, x, by simp, q, fun m x' hm => absurd hm (by omega)⟩
    · rename_i q
      obtain ⟨h1, y, h2, h3, h4⟩ := findD_spec d h
      refine ⟨by omega, y, ?_, h3, fun m x' hm hx => ?_⟩
      · rw [show i - k = (i - (k + 1)) + 1 by omega]
        simpa using h2
      · cases m with
        | zero =>
          simp at hx
          subst hx
          cases e : PyData.eqv x d with
          | true => exact absurd e q
          | false => rfl
        | succ m => exact h4 m x' (by omega) (by simpa using hx)
theorem findD_lt {d : PyData} {ds : List PyData} {i : Nat} (h : findD d ds 0 = some i) : i < ds.length := by
  obtain ⟨_, x, hx, _⟩ := findD_spec d h
  simpa using (List.getElem?_eq_some_iff.mp hx).1
/-- x.index(y), x a list or an exact tuple -/
theorem mt_idxL (hu : X.A.units + 65 < cLine) : MtR X "list.index" (fun x xs H Q => ∃ y d ds i, xs = [y] ∧ Rdv X.K H x (.list ds) ∧ Rdv X.K H y d ∧ min (PyData.depthAll ds) d.depth ≤ 64 ∧ findD d ds 0 = some i ∧ Q (.int (i : Nat)) H) := by
  intro pins s σ H x xs v us Q I rx rxs h
  obtain ⟨y, d, ds, j, rfl, hl, hy, hdep, hf, q⟩ := h
  obtain ⟨_, z, hz, hzj, hno⟩ := findD_spec d hf
  rw [Nat.sub_zero] at hz hno
  obtain ⟨uy, rfl, ry⟩ := rxs.one
  obtain ⟨bs, r1⟩ := hy.reads I ry
  have hxs : PyData.canLayAll0 ds = true := by simpa [PyData.canLay0] using hl.2
  obtain ⟨hl, _⟩ := hl
  cases hl with
  | lst hs ha =>
    cases rx
    obtain ⟨its, rv, ⟨⟨cls, dd, data, sls⟩, n, ho, hc, hdn, hdt⟩, hlen⟩ := I.list hs
    simp only at hc hdt
    subst hc hdt
    obtain ⟨as, h4⟩ := Dp.readsAll I ds _ its ha rv
    have hn : its.length = ds.length := SeqAt.ReadsAll.length ds its as h4
    have hmap : its.map (SeqAt.readOf s.heap) = ds := SeqAt.readsAll_map ds its as hxs h4
    have hvl := rv.length
    have hsl := sizeLine_eq
    obtain ⟨hjd, _⟩ := List.getElem?_eq_some_iff.mp hz
    have hjl : j < its.length := by omega
    have hj : j < its.toArray.size := by simpa using hjl
    have at_ : ∀ (m : Nat) (hm : m < its.toArray.size) (z' : PyData), ds[m]? = some z' → SeqAt.readOf s.heap its.toArray[m] = z' := by
      intro m hm z' hz'
      have hml : m < its.length := by simpa using hm
      rw [← hmap, List.getElem?_map, List.getElem?_eq_getElem hml] at hz'
      have e1 : SeqAt.readOf s.heap its[m] = z' := Option.some.inj (show some (SeqAt.readOf s.heap its[m]) = some z' from hz')
      simpa using e1
    refine call_meets PySem.F.slot_list_index ⟨_, ho, rfl⟩ PySem.F.entry_list_index (PySem.F.args_list_index_2 _ _)
      (SeqAt.list_indexAt _ its.toArray n dd sls uy (fun u => PyData.eqv (SeqAt.readOf s.heap u) d) j hj (by omega) ?_ ?_) ⟨ho, SeqAt.items_eqAt (vs := its.toArray) (show ReadsAll s.heap its.toArray.toList ds as from h4) r1 hxs hy.2 (by omega), ?_⟩
    · show PyData.eqv (SeqAt.readOf s.heap its.toArray[j]) d = true
      rw [at_ j hj z hz]
      exact hzj
    · intro m hm hmj
      have hmd : m < ds.length := by omega
      have hz' : ds[m]? = some ds[m] := List.getElem?_eq_getElem hmd
      show PyData.eqv (SeqAt.readOf s.heap its.toArray[m]) d = false
      rw [at_ m hm _ hz']
      exact hno m _ hmj hz'
    · exact ⟨.int (j : Nat), H, I.tok _, ⟨_, rfl⟩, q⟩
theorem mt_idxT (hu : X.A.units + 65 < cLine) : MtR X "tuple.index" (fun x xs H Q => ∃ y d ds i, xs = [y] ∧ Rdv X.K H x (.tuple ds) ∧ Rdv X.K H y d ∧ min (PyData.depthAll ds) d.depth ≤ 64 ∧ findD d ds 0 = some i ∧ Q (.int (i : Nat)) H) := by
  intro pins s σ H x xs v us Q I rx rxs h
  obtain ⟨y, d, ds, j, rfl, hl, hy, hdep, hf, q⟩ := h
  obtain ⟨_, z, hz, hzj, hno⟩ := findD_spec d hf
  rw [Nat.sub_zero] at hz hno
  obtain ⟨uy, rfl, ry⟩ := rxs.one
  obtain ⟨bs, r1⟩ := hy.reads I ry
  have hxs : PyData.canLayAll0 ds = true := by simpa [PyData.canLay0] using hl.2
  obtain ⟨hl, _⟩ := hl
  cases hl with
  | tup hs ha =>
    cases rx
    obtain ⟨its, rv, ⟨⟨cls, dd, data, sls⟩, ho, hc, n, hdt⟩, hlen⟩ := I.tuple hs
    simp only at hc hdt
    subst hc hdt
    obtain ⟨as, h4⟩ := Dp.readsAll I ds _ its ha rv
    have hn : its.length = ds.length := SeqAt.ReadsAll.length ds its as h4
    have hmap : its.map (SeqAt.readOf s.heap) = ds := SeqAt.readsAll_map ds its as hxs h4
    obtain ⟨hjd, _⟩ := List.getElem?_eq_some_iff.mp hz
    have hjl : j < its.length := by omega
    have hj : j < its.toArray.size := by simpa using hjl
    have at_ : ∀ (m : Nat) (hm : m < its.toArray.size) (z' : PyData), ds[m]? = some z' → SeqAt.readOf s.heap its.toArray[m] = z' := by
      intro m hm z' hz'
      have hml : m < its.length := by simpa using hm
      rw [← hmap, List.getElem?_map, List.getElem?_eq_getElem hml] at hz'
      have e1 : SeqAt.readOf s.heap its[m] = z' := Option.some.inj (show some (SeqAt.readOf s.heap its[m]) = some z' from hz')
      simpa using e1
    refine call_meets PySem.F.slot_tuple_index ⟨_, ho, rfl⟩ PySem.F.entry_tuple_index (PySem.F.args_tuple_index_2 _ _)
      (TI.tuple_indexAt _ its.toArray n dd sls uy (fun u => PyData.eqv (SeqAt.readOf s.heap u) d) j hj ?_ ?_) ⟨ho, SeqAt.items_eqAt (vs := its.toArray) (show ReadsAll s.heap its.toArray.toList ds as from h4) r1 hxs hy.2 (by omega), ?_⟩
    · show PyData.eqv (SeqAt.readOf s.heap its.toArray[j]) d = true
      rw [at_ j hj z hz]
      exact hzj
    · intro m hm hmj
      have hmd : m < ds.length := by omega
      have hz' : ds[m]? = some ds[m] := List.getElem?_eq_getElem hmd
      show PyData.eqv (SeqAt.readOf s.heap its.toArray[m]) d = false
      rw [at_ m hm _ hz']
      exact hno m _ hmj hz'
    · exact ⟨.int (j : Nat), H, I.tok _, ⟨_, rfl⟩, q⟩
end
end PV
namespace PV
open PySem PySem.Spec PyProof.Rows L2

/-! ### outcomes -/
theorem R.assoc {α β δ : Type} (r : R α) (f : α → List Cell → R β) (g : β → List Cell → R δ) : (r.bind f).bind g = r.bind fun a m => (f a m).bind g := by cases r <;> rfl
section
variable (K : PySem.W.Frag) (γ : Nat → Addr) (Wx : WX) (σ : L2.St)
/-- what an outcome asks of the rest: Rel ties what is evaluated to what is run -/
def HG {α β : Type} (Rel : List (Option Addr) → Hp → α → β → Prop) (b : Nat) (φ : List (Option Addr)) (H : Hp) (r : R α) (Q : β → Hp → Prop) : Prop := match r with
  | .ok a m => ∀ φ' H' v, Ext b φ H φ' H' → SR K φ' m H' → Rel φ' H' a v → Q v H'
  | .exc c m => ∀ φ' H', Ext b φ H φ' H' → SR K φ' m H' → Wx (.ref (γ c)) none σ H'
  | .bad => False
end
section
variable {K : PySem.W.Frag} {γ : Nat → Addr} {Wx : WX} {σ : L2.St} {α β α' β' : Type} {Rel : List (Option Addr) → Hp → α → β → Prop} {Rel' : List (Option Addr) → Hp → α' → β' → Prop} {b : Nat} {φ φ1 : List (Option Addr)} {H H1 : Hp} {r : R α}
  {Q : β → Hp → Prop}
theorem HG.shift (h : HG K γ Wx σ Rel b φ H r Q) (x : Ext b φ H φ1 H1) : HG K γ Wx σ Rel b φ1 H1 r Q := by
  cases r with
  | ok a m => exact fun φ' H' v e s q => h φ' H' v (x.trans e) s q
  | exc c m => exact fun φ' H' e s => h φ' H' (x.trans e) s
  | bad => exact h
theorem HG.mono {Q' : β → Hp → Prop} (h : HG K γ Wx σ Rel b φ H r Q) (hq : ∀ v H', Q v H' → Q' v H') : HG K γ Wx σ Rel b φ H r Q' := by
  cases r with
  | ok a m => exact fun φ' H' v e s q => hq _ _ (h φ' H' v e s q)
  | exc c m => exact h
  | bad => exact h
theorem HG.bind {f : α → List Cell → R α'} {Q' : β' → Hp → Prop} (h : HG K γ Wx σ Rel' b φ H (r.bind f) Q') :
    HG K γ Wx σ Rel b φ H r (fun v H' => ∃ φ' m a, Ext b φ H φ' H' ∧ SR K φ' m H' ∧ Rel φ' H' a v ∧ HG K γ Wx σ Rel' b φ' H' (f a m) Q') := by
  cases r with
  | ok a m => exact fun φ' H' v e s q => ⟨φ', m, a, e, s, q, HG.shift h e⟩
  | exc c m => exact h
  | bad => exact h
theorem HG.okI {a : α} {m : List Cell} {v : β} (h : HG K γ Wx σ Rel b φ H (.ok a m) Q) (S : SR K φ m H) (r : Rel φ H a v) : Q v H := h φ H v .refl S r
theorem HG.ofO {o : Option α} {m : List Cell} (h : HG K γ Wx σ Rel b φ H (ofO m o) Q) : ∃ a, o = some a ∧ HG K γ Wx σ Rel b φ H (.ok a m) Q := by
  cases o with
  | none => exact h.elim
  | some a => exact ⟨a, rfl, h⟩
/-- a step that only looks -/
theorem HG.look {α'' : Type} {o : R α''} {f : α'' → List Cell → R α} (ho : ∀ c m', o ≠ .exc c m') (h : HG K γ Wx σ Rel b φ H (o.bind f) Q) : ∃ a m', o = .ok a m' ∧ HG K γ Wx σ Rel b φ H (f a m') Q := by
  cases o with
  | ok a m' => exact ⟨a, m', rfl, h⟩
  | exc c m' => exact absurd rfl (ho c m')
  | bad => exact h.elim
theorem HG.dataOf {m : List Cell} {w : W} {f : PyData → List Cell → R α} (h : HG K γ Wx σ Rel b φ H ((PV.dataOf m w).bind f) Q) : ∃ x, w = .d x ∧ HG K γ Wx σ Rel b φ H (f x m) Q := by
  cases w with
  | d x => exact ⟨x, rfl, h⟩
  | l n => exact h.elim
theorem HG.boolOf {m : List Cell} {w : W} {f : Bool → List Cell → R α} (h : HG K γ Wx σ Rel b φ H ((PV.boolOf m w).bind f) Q) : ∃ x, w = .d (.bool x) ∧ HG K γ Wx σ Rel b φ H (f x m) Q := by
  cases w with
  | d x => cases x with
    | bool c => exact ⟨c, rfl, h⟩
    | _ => exact h.elim
  | l n => exact h.elim
theorem HG.intOf {m : List Cell} {w : W} {f : Int → List Cell → R α} (h : HG K γ Wx σ Rel b φ H ((PV.intOf m w).bind f) Q) : ∃ x, w = .d (.int x) ∧ HG K γ Wx σ Rel b φ H (f x m) Q := by
  cases w with
  | d x => cases x with
    | int c => exact ⟨c, rfl, h⟩
    | _ => exact h.elim
  | l n => exact h.elim
theorem HG.getV {i : Nat} {ρ : Env} {m : List Cell} {Rel : List (Option Addr) → Hp → W → β → Prop} (h : HG K γ Wx σ Rel b φ H (PV.getV ρ i m) Q) : ∃ w, ρ[i]? = some (some w) ∧ HG K γ Wx σ Rel b φ H (.ok w m) Q := by
  unfold PV.getV at h
  split at h
  · exact ⟨_, by assumption, h⟩
  · exact h.elim
theorem HG.cmpB {o : Option Bool} {m : List Cell} {Rel : List (Option Addr) → Hp → Bool → β → Prop} (h : HG K γ Wx σ Rel b φ H ((PV.ofO m (o.map fun c => W.d (.bool c))).bind fun w m => PV.boolOf m w) Q) : ∃ c, o = some c ∧ HG K γ Wx σ Rel b φ H (.ok c m) Q := by
  cases o with
  | none => exact h.elim
  | some c => exact ⟨c, rfl, h⟩
theorem HG.gd {d : PyData} {m : List Cell} {Q : V → Hp → Prop} (h : HG K γ Wx σ (RW K) b φ H (.ok (.d d) m) Q) : GD K φ m d Q H := fun H' v g s r => h φ H' v (g b) s r
end

/-! ### the names -/
def RE (K : PySem.W.Frag) (φ : List (Option Addr)) (H : Hp) (ρ : Env) (σ : L2.St) : Prop := ρ.length = σ.length ∧ ∀ (i : Nat) w, ρ[i]? = some (some w) → ∃ v, σ[i]? = some (some v) ∧ RW K φ H w v
section
variable {K : PySem.W.Frag} {b : Nat} {φ φ' : List (Option Addr)} {H H' : Hp} {ρ : Env} {σ : L2.St}
theorem RE.mono (h : RE K φ H ρ σ) (x : Ext b φ H φ' H') : RE K φ' H' ρ σ := ⟨h.1, fun i w e => let ⟨v, e1, r⟩ := h.2 i w e; ⟨v, e1, r.mono x⟩⟩
theorem RE.set (h : RE K φ H ρ σ) {i : Nat} {w : W} {v : V} (r : RW K φ H w v) : RE K φ H (ρ.set i (some w)) (σ.set i (some v)) := by
  refine ⟨by simp [h.1], fun j u e => ?_⟩
  by_cases hij : i = j
  · subst hij
    by_cases hi : i < ρ.length
    · rw [List.getElem?_set_self hi] at e
      cases e
      exact ⟨v, List.getElem?_set_self (by rw [← h.1]; exact hi), r⟩
    · rw [List.getElem?_eq_none (by simpa using hi)] at e; cases e
  · rw [List.getElem?_set_ne hij] at e
    rw [List.getElem?_set_ne hij]
    exact h.2 j u e
theorem RE.wipe (h : RE K φ H ρ σ) : ∀ vs : List Nat, RE K φ H (wipeE ρ vs) (L2.wipe σ vs)
  | [] => h
  | v :: vs => by
    have ih := RE.wipe h vs
    refine ⟨by unfold wipeE L2.wipe; simp [ih.1], fun i w e => ?_⟩
    unfold wipeE at e
    unfold L2.wipe
    by_cases hi : v = i
    · subst hi
      by_cases hv : v < (wipeE ρ vs).length
      · rw [List.getElem?_set_self hv] at e; cases e
      · rw [List.getElem?_eq_none (by simpa using hv)] at e; cases e
    · rw [List.getElem?_set_ne hi] at e
      rw [List.getElem?_set_ne hi]
      exact ih.2 i w e
end

/-! ### readings -/
section
variable (K : PySem.W.Frag) (γ : Nat → Addr) (Wx : WX) (b : Nat)
/-- the reading of what is evaluated by f -/
def tG {α β : Type} (Rel : List (Option Addr) → Hp → α → β → Prop) (f : Env → List Cell → R α) : L2.St → Hp → (β → Hp → Prop) → Prop :=
  fun σ H Q => ∃ φ m ρ, SR K φ m H ∧ RE K φ H ρ σ ∧ HG K γ Wx σ Rel b φ H (f ρ m) Q
abbrev tW (f : Env → List Cell → R W) : TE := tG K γ Wx b (RW K) f
abbrev tWs (f : Env → List Cell → R (List W)) : TA := tG K γ Wx b (RWs K) f
abbrev tEq {α : Type} (f : Env → List Cell → R α) : L2.St → Hp → (α → Hp → Prop) → Prop := tG K γ Wx b (fun _ _ x y => x = y) f
end
theorem _root_.L2.PE.wk {X : Cx} {e : Expr} {t t' : TE} (h : PE X e t) (hw : ∀ σ H Q, t' σ H Q → t σ H Q) : PE X e t' := ⟨fun pins s σ H Q I q => h.run pins s σ H Q I (hw σ H Q q)⟩
theorem _root_.L2.PT.wk {X : Cx} {e : Expr} {t t' : TT} (h : PT X e t) (hw : ∀ σ H Q, t' σ H Q → t σ H Q) : PT X e t' := ⟨fun pins s σ H Q I q => h.run pins s σ H Q I (hw σ H Q q)⟩
theorem _root_.L2.PW.wk {X : Cx} {e : Expr} {t t' : TT} (h : PW X e t) (hw : ∀ σ H Q, t' σ H Q → t σ H Q) : PW X e t' := ⟨fun wh pins s σ H Q I q => h.run wh pins s σ H Q I (hw σ H Q q)⟩
theorem _root_.L2.PA.wk {X : Cx} {e : List Expr} {t t' : TA} (h : PA X e t) (hw : ∀ σ H Q, t' σ H Q → t σ H Q) : PA X e t' := ⟨fun pos pins s σ H Q I q => h.run pos pins s σ H Q I (hw σ H Q q)⟩
theorem _root_.L2.PS.wk {X : Cx} {e : Stmt} {t t' : TS} (h : PS X e t) (hw : ∀ D σ H, t' D σ H → t D σ H) : PS X e t' := ⟨fun pins s σ H Q I q => h.run pins s σ H Q I (hw Q σ H q)⟩
theorem _root_.L2.PSs.wk {X : Cx} {e : List Stmt} {t t' : TS} (h : PSs X e t) (hw : ∀ D σ H, t' D σ H → t D σ H) : PSs X e t' := ⟨fun pins s σ H Q I q => h.run pins s σ H Q I (hw Q σ H q)⟩
theorem _root_.L2.PI.wk {X : Cx} {tg e : Expr} {t t' : TI} (h : PI X tg e t) (hw : ∀ σ H Q, t' σ H Q → t σ H Q) : PI X tg e t' := ⟨fun pins s σ H R I q => h.run pins s σ H R I (hw σ H R q)⟩
theorem _root_.L2.PO.wk {X : Cx} {e : Option Expr} {t t' : TO} (h : PO X e t) (hw : ∀ σ H Q, t' σ H Q → t σ H Q) : PO X e t' := ⟨fun pins s σ H Q I q => h.run pins s σ H Q I (hw σ H Q q)⟩

section
variable {X : Cx} {γ : Nat → Addr} {Wx : WX} {b : Nat} {e : Expr} {pos : Pos}
/-- the first of two -/
theorem tG.then {K : PySem.W.Frag} {α β α' β' : Type} {Rel : List (Option Addr) → Hp → α → β → Prop} {Rel' : List (Option Addr) → Hp → α' → β' → Prop} {f : Env → List Cell → R α} {g : Env → α → List Cell → R α'} {σ : L2.St} {H : Hp}
    {Q : β → Hp → Prop} {Q' : β' → Hp → Prop} (h : tG K γ Wx b Rel' (fun ρ m => (f ρ m).bind (g ρ)) σ H Q')
    (k : ∀ φ m ρ a v H', SR K φ m H' → RE K φ H' ρ σ → Rel φ H' a v → HG K γ Wx σ Rel' b φ H' (g ρ a m) Q' → Q v H') : tG K γ Wx b Rel f σ H Q := by
  obtain ⟨φ, m, ρ, S, re, h⟩ := h
  exact ⟨φ, m, ρ, S, re, (h.bind (Rel := Rel)).mono fun v H' ⟨φ', m', a, x, s, r, q⟩ => k φ' m' ρ a v H' s (re.mono x) r q⟩
theorem pe_d {x : PyData} {v : V} {t : TE} (h : PE X e t) (ht : ∀ σ H Q, Q v H → t σ H Q) (r : ∀ G, Dv X.K G v x) : PE X e (tW X.K γ Wx b fun _ m => .ok (.d x) m) :=
  h.wk fun σ H Q ⟨φ, m, ρ, S, re, h⟩ => ht σ H Q (h.okI S (r _))
theorem pe_varW {i : Nat} {x : Str} (hN : X.N[i]? = some x) (hv : Vis X.env.scope x) (hd : (x == ("__debug__" : Str)) = false) (hcd : (x == ("__classdict__" : Str)) = false) : PE X (.Name x pos) (tW X.K γ Wx b fun ρ m => getV ρ i m) :=
  (pe_var hN hv hd hcd).wk fun σ H Q ⟨φ, m, ρ, S, re, h⟩ => by
    have h : HG X.K γ Wx σ (RW X.K) b φ H (getV ρ i m) Q := h
    obtain ⟨w, hw, h⟩ := h.getV
    obtain ⟨v, e1, r⟩ := re.2 i w hw
    exact ⟨v, e1, h.okI S r⟩
variable {f g k : Env → List Cell → R W} {x y z : Expr}
theorem pe_bopW (o : BOp) (hx : PE X x (tW X.K γ Wx b f)) (hy : PE X y (tW X.K γ Wx b g)) :
    PE X (.BinOp x (bopS o) y pos) (tW X.K γ Wx b fun ρ m => (f ρ m).bind fun u m1 => (g ρ m1).bind fun v m2 => (dataOf m2 u).bind fun u _ => (dataOf m2 v).bind fun v _ => ofO m2 ((binD o u v).map .d)) :=
  (pe_op (op_D o) hx hy).wk fun σ H Q h => tG.then (f := f) h fun φ m ρ u v1 H1 S re r h => ⟨φ, m, ρ, S, re, (h.bind (Rel := RW X.K)).mono fun v2 H2 ⟨φ2, m2, v, x2, S2, r2, h⟩ => by
    obtain ⟨u, rfl, h3⟩ := h.dataOf
    obtain ⟨v, rfl, h4⟩ := h3.dataOf
    obtain ⟨z, hz, h5⟩ := h4.ofO
    obtain ⟨d, hd, rfl⟩ := Option.map_eq_some_iff.mp hz
    exact ⟨φ2, m2, u, v, d, S2, r.mono x2, r2, hd, h5.gd⟩⟩
theorem pe_uopW (o : UOp) (hx : PE X x (tW X.K γ Wx b f)) : PE X (.UnaryOp (uopS o) x pos) (tW X.K γ Wx b fun ρ m => (f ρ m).bind fun u m1 => (dataOf m1 u).bind fun u _ => ofO m1 ((uopD o u).map .d)) :=
  (pe_un (un_D o) hx).wk fun σ H Q h => tG.then (f := f) h fun φ m ρ u v1 H1 S re r h => by
    obtain ⟨u, rfl, h3⟩ := h.dataOf
    obtain ⟨z, hz, h4⟩ := h3.ofO
    obtain ⟨d, hd, rfl⟩ := Option.map_eq_some_iff.mp hz
    exact ⟨φ, m, u, d, S, r, hd, h4.gd⟩
def isSet : Expr → Bool
  | .Set .. => true
  | _ => false
theorem marksOff (o : COp) (y : Expr) (h : isSet y = false) : behindInMarks (copS o) y = false := by
  cases y <;> first | rfl | cases h
/-- a comparison: the values' step -/
theorem cmp_step {o : COp} {c : Bool} {φ : List (Option Addr)} {m : List Cell} {H : Hp} {u v : W} {v1 v2 : V} {Q : VK} (r : RW X.K φ H u v1) (r2 : RW X.K φ H v v2) (S : SR X.K φ m H) (hc : cmpW o m u v = some c) (q : Q (.bl c) H) : rC X.K o v1 v2 H Q := by
  obtain ⟨du, e1, hz⟩ := Option.bind_eq_some_iff.mp hc
  obtain ⟨dv, e2, hz⟩ := Option.bind_eq_some_iff.mp hz
  exact ⟨du, dv, c, (rdW_rv S r e1).rdv, (rdW_rv S r2 e2).rdv, hz, q⟩
theorem pe_cmpW (o : COp) (hu : X.A.units + 65 < cLine) (hx : PE X x (tW X.K γ Wx b f)) (hy : PE X y (tW X.K γ Wx b g)) (hm : isSet y = false) :
    PE X (.Compare x [copS o] [y] pos) (tW X.K γ Wx b fun ρ m => (f ρ m).bind fun u m1 => (g ρ m1).bind fun v m2 => ofO m2 ((cmpW o m2 u v).map fun c => .d (.bool c))) :=
  (pe_cmpR (op_C o hu) hx hy (marksOff o y hm)).wk fun σ H Q h => tG.then (f := f) h fun φ m ρ u v1 H1 S re r h => ⟨φ, m, ρ, S, re, (h.bind (Rel := RW X.K)).mono fun v2 H2 ⟨φ2, m2, v, x2, S2, r2, h⟩ => by
    obtain ⟨z, hz, h⟩ := h.ofO
    obtain ⟨c, hc, rfl⟩ := Option.map_eq_some_iff.mp hz
    exact cmp_step (r.mono x2) r2 S2 hc (h.okI S2 (.bl c))⟩
theorem pt_cmpW (o : COp) (hu : X.A.units + 65 < cLine) (hx : PE X x (tW X.K γ Wx b f)) (hy : PE X y (tW X.K γ Wx b g)) (hm : isSet y = false) :
    PT X (.Compare x [copS o] [y] pos) (tEq X.K γ Wx b fun ρ m => ((f ρ m).bind fun u m1 => (g ρ m1).bind fun v m2 => ofO m2 ((cmpW o m2 u v).map fun c => .d (.bool c))).bind fun w m => boolOf m w) :=
  (pt_cmpR (op_C o hu) hx hy (marksOff o y hm)).wk fun σ H Q h => by
    simp only [R.assoc] at h
    exact tG.then (f := f) h fun φ m ρ u v1 H1 S re r h => ⟨φ, m, ρ, S, re, (h.bind (Rel := RW X.K)).mono fun v2 H2 ⟨φ2, m2, v, x2, S2, r2, h⟩ => by
      obtain ⟨c, hc, h⟩ := h.cmpB
      exact cmp_step (r.mono x2) r2 S2 hc ⟨c, rfl, h.okI S2 rfl⟩⟩
/-- any other expression as a test -/
theorem pt_valW (hx : PE X x (tW X.K γ Wx b f)) (he : ∀ whole, isTrue x X.env whole = (do let v ← whole; standAt x.pos; holding [v] (truthy v))) : PT X x (tEq X.K γ Wx b fun ρ m => (f ρ m).bind fun w m => boolOf m w) :=
  (pt_val hx he).wk fun σ H Q h => tG.then (f := f) (g := fun _ w m => boolOf m w) h fun φ m ρ u v1 H1 S re r h => by
    have h : HG X.K γ Wx σ (fun _ _ x y => x = y) b φ H1 ((boolOf m u).bind fun c m' => .ok c m') Q := by cases q : boolOf m u <;> (rw [q] at h; exact h)
    obtain ⟨c, rfl, h4⟩ := h.boolOf
    exact ⟨c, (show Dv X.K (hide φ H1) v1 (.bool c) from r).ebl, HG.okI (m := m) (a := c) h4 S rfl⟩
/-! ### and, or, not, if -/
abbrev tst (f : Env → List Cell → R W) (ρ : Env) (m : List Cell) : R Bool := (f ρ m).bind fun w m => boolOf m w
end
end PV
namespace PV
open PySem PySem.Spec PyProof.Rows L2
section
variable {X : Cx} {γ : Nat → Addr} {Wx : WX} {b : Nat} {e : Expr} {pos : Pos} {f g k : Env → List Cell → R W} {x y z : Expr} {rest : List Expr}
abbrev tT (K : PySem.W.Frag) (γ : Nat → Addr) (Wx : WX) (b : Nat) (f : Env → List Cell → R W) : TT := tEq K γ Wx b fun ρ m => tst f ρ m
/-- an expression and the same as a test -/
structure Snd (X : Cx) (γ : Nat → Addr) (Wx : WX) (b : Nat) (x : Expr) (f : Env → List Cell → R W) : Prop where
  pe : PE X x (tW X.K γ Wx b f)
  pt : PT X x (tT X.K γ Wx b f)
theorem pw_of_pt {op : BoolOp} {vs : List Expr} {t : TT} (h : PT X (.BoolOp op vs pos) t) : PW X (.BoolOp op vs pos) t := ⟨fun wh pins s σ H Q I q => by
  have e : isTrue (.BoolOp op vs pos) X.env wh = isTrue (.BoolOp op vs pos) X.env (eval (.BoolOp op vs pos) X.env) := by rfl
  rw [e]
  exact h.run pins s σ H Q I q⟩
def fAnd (f g : Env → List Cell → R W) (ρ : Env) (m : List Cell) : R W := (f ρ m).bind fun u m1 => (boolOf m1 u).bind fun c _ => if c then (g ρ m1).bind fun v m2 => (boolOf m2 v).bind fun d _ => .ok (.d (.bool d)) m2 else .ok (.d (.bool false)) m1
def fOr (f g : Env → List Cell → R W) (ρ : Env) (m : List Cell) : R W := (f ρ m).bind fun u m1 => (boolOf m1 u).bind fun c _ => if c then R.ok (W.d (.bool true)) m1 else (g ρ m1).bind fun v m2 => (boolOf m2 v).bind fun d _ => .ok (.d (.bool d)) m2
def fNot (f : Env → List Cell → R W) (ρ : Env) (m : List Cell) : R W := (f ρ m).bind fun u m1 => (boolOf m1 u).bind fun c _ => R.ok (W.d (.bool (!c))) m1
def fIte (f g k : Env → List Cell → R W) (ρ : Env) (m : List Cell) : R W := (f ρ m).bind fun u m1 => (boolOf m1 u).bind fun c _ => if c then g ρ m1 else k ρ m1
/-- a value that must be a truth is handed on -/
theorem HG.last {K : PySem.W.Frag} {σ : L2.St} {φ : List (Option Addr)} {H : Hp} {Q : V → Hp → Prop} {r : R W} (h : HG K γ Wx σ (RW K) b φ H (r.bind fun v m2 => (PV.boolOf m2 v).bind fun d _ => R.ok (W.d (.bool d)) m2) Q) : HG K γ Wx σ (RW K) b φ H r Q := by
  cases r with
  | bad => exact h
  | exc c m => exact h
  | ok v m =>
    obtain ⟨d, rfl, h2⟩ := h.boolOf
    exact h2
theorem HG.lastT {K : PySem.W.Frag} {σ : L2.St} {φ : List (Option Addr)} {H : Hp} {Q : Bool → Hp → Prop} {r : R W} (h : HG K γ Wx σ (fun _ _ x y => x = y) b φ H ((r.bind fun v m2 => (PV.boolOf m2 v).bind fun d _ => R.ok (W.d (.bool d)) m2).bind fun w m => PV.boolOf m w) Q) :
    HG K γ Wx σ (fun _ _ x y => x = y) b φ H (r.bind fun w m => PV.boolOf m w) Q := by
  cases r with
  | bad => exact h
  | exc c m => exact h
  | ok v m =>
    cases v with
    | l n => exact h.elim
    | d x => cases x with
      | bool d => exact h
      | _ => exact h.elim
/-- the test's two halves -/
theorem tst_then {K : PySem.W.Frag} {α β : Type} {Rel : List (Option Addr) → Hp → α → β → Prop} {F : Env → Bool → List Cell → R α} {σ : L2.St} {H : Hp} {Q : Bool → Hp → Prop} {Q' : β → Hp → Prop}
    (h : tG K γ Wx b Rel (fun ρ m => (f ρ m).bind fun u m1 => (boolOf m1 u).bind fun c _ => F ρ c m1) σ H Q')
    (hk : ∀ φ m ρ c H', SR K φ m H' → RE K φ H' ρ σ → HG K γ Wx σ Rel b φ H' (F ρ c m) Q' → Q c H') : tT K γ Wx b f σ H Q := by
  obtain ⟨φ, m, ρ, S, re, h⟩ := h
  refine ⟨φ, m, ρ, S, re, ?_⟩
  show HG K γ Wx σ _ b φ H ((f ρ m).bind fun w m => boolOf m w) Q
  have h : HG K γ Wx σ Rel b φ H ((f ρ m).bind fun u m1 => (boolOf m1 u).bind fun c _ => F ρ c m1) Q' := h
  cases hf : f ρ m with
  | bad => rw [hf] at h; exact h
  | exc c m' => rw [hf] at h; exact h
  | ok u m1 =>
    rw [hf] at h
    obtain ⟨c, rfl, h2⟩ := HG.boolOf h
    intro φ' H' c' x s e
    subst e
    exact hk φ' m1 ρ _ H' s (re.mono x) (h2.shift x)
theorem Snd.and (hx : Snd X γ Wx b x f) (hy : Snd X γ Wx b (.BoolOp .And (y :: rest) pos) g) : Snd X γ Wx b (.BoolOp .And (x :: y :: rest) pos) (fAnd f g) where
  pe := (pe_and hx.pe hy.pe).wk fun σ H Q h => tG.then (f := f) (g := fun ρ (u : W) (m1 : List Cell) => (boolOf m1 u).bind fun c _ => if c then (g ρ m1).bind fun v m2 => (boolOf m2 v).bind fun d _ => .ok (.d (.bool d)) m2 else R.ok (W.d (.bool false)) m1) h fun φ m ρ u v1 H1 S re r h => by
    obtain ⟨c, rfl, h2⟩ := h.boolOf
    refine ⟨c, (show Dv X.K (hide φ H1) v1 (.bool c) from r).ebl, ?_⟩
    cases c with
    | true => exact iteT ⟨φ, m, ρ, S, re, HG.last h2⟩
    | false => exact iteF (h2.okI S (Dv.bl false))
  pt := (PW.pt (pw_and hx.pt (pw_of_pt hy.pt))).wk fun σ H Q h => by
    refine tst_then (f := f) (F := fun ρ c m1 => (if c then (g ρ m1).bind fun v m2 => (boolOf m2 v).bind fun d _ => R.ok (W.d (.bool d)) m2 else R.ok (W.d (.bool false)) m1).bind fun w m => boolOf m w) (Rel := fun _ _ x y => x = y) (Q' := Q) ?_ fun φ m ρ c H' S re h => ?_
    · have e : (fun ρ m => tst (fAnd f g) ρ m) = fun ρ m => (f ρ m).bind fun u m1 => (boolOf m1 u).bind fun c _ => (if c then (g ρ m1).bind fun v m2 => (boolOf m2 v).bind fun d _ => R.ok (W.d (.bool d)) m2 else R.ok (W.d (.bool false)) m1).bind fun w m => boolOf m w := by
        funext ρ m
        simp only [tst, fAnd, R.assoc]
      rw [← e]
      exact h
    · cases c with
      | true => exact iteT ⟨φ, m, ρ, S, re, HG.lastT h⟩
      | false => exact iteF (HG.okI (a := false) (m := m) h S rfl)
theorem Snd.or (hx : Snd X γ Wx b x f) (hy : Snd X γ Wx b (.BoolOp .Or (y :: rest) pos) g) : Snd X γ Wx b (.BoolOp .Or (x :: y :: rest) pos) (fOr f g) where
  pe := (pe_or hx.pe hy.pe).wk fun σ H Q h => tG.then (f := f) (g := fun ρ (u : W) (m1 : List Cell) => (boolOf m1 u).bind fun c _ => if c then R.ok (W.d (.bool true)) m1 else (g ρ m1).bind fun v m2 => (boolOf m2 v).bind fun d _ => R.ok (W.d (.bool d)) m2) h fun φ m ρ u v1 H1 S re r h => by
    obtain ⟨c, rfl, h2⟩ := h.boolOf
    refine ⟨c, (show Dv X.K (hide φ H1) v1 (.bool c) from r).ebl, ?_⟩
    cases c with
    | true => exact iteT (h2.okI S (Dv.bl true))
    | false => exact iteF ⟨φ, m, ρ, S, re, HG.last h2⟩
  pt := (PW.pt (pw_or hx.pt (pw_of_pt hy.pt))).wk fun σ H Q h => by
    refine tst_then (f := f) (F := fun ρ c m1 => (if c then R.ok (W.d (.bool true)) m1 else (g ρ m1).bind fun v m2 => (boolOf m2 v).bind fun d _ => R.ok (W.d (.bool d)) m2).bind fun w m => boolOf m w) (Rel := fun _ _ x y => x = y) (Q' := Q) ?_ fun φ m ρ c H' S re h => ?_
    · have e : (fun ρ m => tst (fOr f g) ρ m) = fun ρ m => (f ρ m).bind fun u m1 => (boolOf m1 u).bind fun c _ => (if c then R.ok (W.d (.bool true)) m1 else (g ρ m1).bind fun v m2 => (boolOf m2 v).bind fun d _ => R.ok (W.d (.bool d)) m2).bind fun w m => boolOf m w := by
        funext ρ m
        simp only [tst, fOr, R.assoc]
      rw [← e]
      exact h
    · cases c with
      | true => exact iteT (HG.okI (a := true) (m := m) h S rfl)
      | false => exact iteF ⟨φ, m, ρ, S, re, HG.lastT h⟩
theorem Snd.one {op : BoolOp} (hx : Snd X γ Wx b x f) : Snd X γ Wx b (.BoolOp op [x] pos) f where
  pe := pe_one hx.pe
  pt := by cases op with
    | And => exact PW.pt (pw_and1 hx.pt)
    | Or => exact PW.pt (pw_or1 hx.pt)
theorem Snd.not (hx : Snd X γ Wx b x f) : Snd X γ Wx b (.UnaryOp .Not x pos) (fNot f) where
  pe := (pe_not hx.pe).wk fun σ H Q h => tG.then (f := f) (g := fun ρ (u : W) (m1 : List Cell) => (boolOf m1 u).bind fun c _ => R.ok (W.d (.bool (!c))) m1) h fun φ m ρ u v1 H1 S re r h => by
    obtain ⟨c, rfl, h2⟩ := h.boolOf
    exact ⟨c, (show Dv X.K (hide φ H1) v1 (.bool c) from r).ebl, h2.okI S (Dv.bl _)⟩
  pt := (pt_not hx.pt).wk fun σ H Q h => by
    refine tst_then (f := f) (F := fun ρ c m1 => R.ok (!c) m1) (Rel := fun _ _ x y => x = y) (Q' := Q) ?_ fun φ m ρ c H' S re h => HG.okI (a := !c) (m := m) h S rfl
    have e : (fun ρ m => tst (fNot f) ρ m) = fun ρ m => (f ρ m).bind fun u m1 => (boolOf m1 u).bind fun c _ => R.ok (!c) m1 := by
      funext ρ m
      simp only [tst, fNot, R.assoc]
      rfl
    rw [← e]
    exact h
def plainTest : Expr → Bool
  | .UnaryOp .Not _ _ => false
  | .BoolOp .. => false
  | .IfExp .. => false
  | .Compare .. => false
  | _ => true
theorem isTrue_plainE (x : Expr) (h : plainTest x = true) (env : PySem.Env) (whole : Sem Value) : isTrue x env whole = (do let v ← whole; standAt x.pos; holding [v] (truthy v)) := by
  cases x with
  | UnaryOp op a p => cases op <;> first | rfl | cases h
  | BoolOp _ _ _ => cases h
  | IfExp _ _ _ _ => cases h
  | Compare _ _ _ _ => cases h
  | _ => rfl
theorem Snd.of (hx : PE X x (tW X.K γ Wx b f)) (h : plainTest x = true) : Snd X γ Wx b x f := ⟨hx, pt_valW hx fun wh => isTrue_plainE x h X.env wh⟩
theorem Snd.ite (hx : Snd X γ Wx b x f) (hy : PE X y (tW X.K γ Wx b g)) (hz : PE X z (tW X.K γ Wx b k)) : PE X (.IfExp x y z pos) (tW X.K γ Wx b (fIte f g k)) :=
  (pe_ifExp hx.pt hy hz).wk fun σ H Q h => tst_then (f := f) (F := fun ρ c m1 => if c then g ρ m1 else k ρ m1) (Rel := RW X.K) h fun φ m ρ c H' S re h => by
    cases c with
    | true => exact iteT ⟨φ, m, ρ, S, re, h⟩
    | false => exact iteF ⟨φ, m, ρ, S, re, h⟩

/-! ### argument lists, displays -/
def isStar : Expr → Bool
  | .Starred .. => true
  | _ => false
theorem star_no (x : Expr) (r : List Expr) (env : PySem.Env) (h : isStar x = false) : starEach (x :: r) env = (false, eval x env) :: starEach r env := by
  cases x <;> first | rfl | cases h
variable {es : List Expr} {fs : Env → List Cell → R (List W)}
theorem pa_nilW : PA X [] (tWs X.K γ Wx b fun _ m => .ok [] m) := pa_nil.wk fun σ H Q ⟨φ, m, ρ, S, re, h⟩ => h.okI S .nil
theorem pa_consW (hs : isStar x = false) (hx : PE X x (tW X.K γ Wx b f)) (hr : PA X es (tWs X.K γ Wx b fs)) : PA X (x :: es) (tWs X.K γ Wx b fun ρ m => (f ρ m).bind fun w m1 => (fs ρ m1).bind fun ws m2 => .ok (w :: ws) m2) :=
  (pa_cons hx hr (star_no x es X.env hs)).wk fun σ H Q h => tG.then (f := f) h fun φ m ρ u v1 H1 S re r h => ⟨φ, m, ρ, S, re, (h.bind (Rel := RWs X.K)).mono fun vs H2 ⟨φ2, m2, ws, x2, S2, r2, h⟩ => h.okI S2 (.cons (r.mono x2) r2)⟩
theorem rws_data {K : PySem.W.Frag} {φ : List (Option Addr)} {H : Hp} : ∀ {ds : List PyData} {vs : List V}, DvAll K (hide φ H) vs ds → RWs K φ H (ds.map .d) vs
  | _, _, .nil => .nil
  | _, _, .cons h t => .cons h (rws_data t)
theorem pe_tupW (h : PA X es (tWs X.K γ Wx b fs)) {x1} : PE X (.Tuple es x1 pos) (tW X.K γ Wx b fun ρ m => (fs ρ m).bind fun ws m1 => ofO m1 ((wsD ws).bind fun xs => (ssz xs).map fun xs => .d (.tuple xs))) := by
  refine ⟨fun pins s σ H Q I hq => ?_⟩
  obtain ⟨φ, m, ρ, S, re, hq⟩ := hq
  refine wpAny_Tuple_spliced (thn (h.run pos pins s σ H _ I ⟨φ, m, ρ, S, re, hq.bind (Rel := RWs X.K)⟩) fun us s1 ⟨vs, H1, I1, r, φ1, m1, ws, x1, S1, rs, h1⟩ => ?_)
  obtain ⟨z, hz, h2⟩ := h1.ofO
  obtain ⟨ds, e1, hz⟩ := Option.bind_eq_some_iff.mp hz
  obtain ⟨ds', e2, rfl⟩ := Option.map_eq_some_iff.mp hz
  obtain ⟨rfl, hl⟩ := ssz_ok e2
  have hd := wsD_vals rs e1
  have l1 := hd.length
  have l2 := r.length
  have l3 := lim_size
  exact ⟨by omega, ⟨.ref s1.heap.objs.size, _, Inv.tnew I1 r (by omega), rfl, h2.gd.tup S1 hd (tupO_new _) I1.fresh⟩⟩
theorem pe_lstW (h : PA X es (tWs X.K γ Wx b fs)) : PE X (.List es pos) (tW X.K γ Wx b fun ρ m => (fs ρ m).bind fun ws m1 => ofO m1 ((wsD ws).bind fun xs => (ssz xs).map fun xs => .d (.list xs))) :=
  (pe_lst h).wk fun σ H Q ⟨φ, m, ρ, S, re, h⟩ => ⟨φ, m, ρ, S, re, (h.bind (Rel := RWs X.K)).mono fun vs H1 ⟨φ1, m1, ws, x1, S1, rs, h1⟩ => by
    obtain ⟨z, hz, h2⟩ := h1.ofO
    obtain ⟨ds, e1, hz⟩ := Option.bind_eq_some_iff.mp hz
    obtain ⟨ds', e2, rfl⟩ := Option.map_eq_some_iff.mp hz
    obtain ⟨rfl, hl⟩ := ssz_ok e2
    have hd := wsD_vals rs e1
    have l1 := hd.length
    have l3 := lim_size
    exact ⟨by omega, fun p hp => h2.gd.lst S1 hd hp⟩⟩
theorem HG.newcell {K : PySem.W.Frag} {σ : L2.St} {φ : List (Option Addr)} {m : List Cell} {H : Hp} {Q : V → Hp → Prop} {ws : List W} {vs : List V} {p : Addr} (h : HG K γ Wx σ (RW K) b φ H (.ok (.l m.length) (m ++ [.lst ws])) Q) (S : SR K φ m H) (rs : RWs K φ H ws vs) (hp : H p = none) : Q (.ref p) (upd H p (.lst vs)) := by
  have x : Ext b φ H (φ ++ [some p]) (upd H p (.lst vs)) := S.ext_cell hp
  refine h (φ ++ [some p]) _ (.ref p) x (S.new_cell hp ⟨vs, upd_same, rs.mono x⟩) ⟨some p, ?_, fun a e => by cases e; rfl⟩
  rw [List.getElem?_append_right (by rw [S.len]; exact Nat.le_refl _), S.len, Nat.sub_self]
  rfl
theorem pe_lstMW (h : PA X es (tWs X.K γ Wx b fs)) : PE X (.List es pos) (tW X.K γ Wx b fun ρ m => (fs ρ m).bind fun ws m1 => if ws.length ≤ lim then .ok (.l m1.length) (m1 ++ [.lst ws]) else .bad) :=
  (pe_lst h).wk fun σ H Q ⟨φ, m, ρ, S, re, h⟩ => ⟨φ, m, ρ, S, re, (h.bind (Rel := RWs X.K)).mono fun vs H1 ⟨φ1, m1, ws, x1, S1, rs, h1⟩ => by
    split at h1
    · rename_i hl
      have l1 := rs.length
      have l3 := lim_size
      exact ⟨by omega, fun p hp => h1.newcell S1 rs hp⟩
    · exact h1.elim⟩
end
end PV
namespace PV
open PySem PySem.Spec PyProof.Rows L2
section
variable {X : Cx} {γ : Nat → Addr} {Wx : WX} {b : Nat} {e : Expr} {pos np np2 tp rp : Pos} {f g k : Env → List Cell → R W} {x y z : Expr} {es : List Expr} {fs : Env → List Cell → R (List W)}

/-! ### arguments -/
theorem any_no (h : ∀ y ∈ es, isStar y = false) (env : PySem.Env) (p : Pos) : (backTo p (starEach es env)).any (·.1) = false := by
  induction es with
  | nil => rfl
  | cons a r ih =>
    rw [star_no a r env (h a (by simp))]
    show (false || (backTo p (starEach r env)).any (·.1)) = false
    rw [ih fun y hy => h y (by simp [hy])]
    rfl
theorem one_no (h : isStar x = false) (env : PySem.Env) : starEach [x] env = (false, eval x env) :: starEach [] env := star_no x [] env h
theorem pa_starW (hx : PE X x (tW X.K γ Wx b f)) (hr : PA X es (tWs X.K γ Wx b fs)) : PA X (.Starred x pos :: es) (tWs X.K γ Wx b fun ρ m => (f ρ m).bind fun w m1 => (match rdW m1 w with
      | some (.tuple xs) => (fs ρ m1).bind fun ws m2 => .ok (xs.map .d ++ ws) m2
      | some (.list xs) => (fs ρ m1).bind fun ws m2 => .ok (xs.map .d ++ ws) m2
      | _ => .bad)) := by
  refine ⟨fun pos' pins s σ H Q I h => ?_⟩
  refine PySem.W.items_star (thn (hx.run pins s σ H _ I (tG.then (Q := fun x H1 => ∃ p xs, x = V.ref p ∧ (SqT X.K H1 p xs ∨ SqL X.K H1 p xs) ∧ tWs X.K γ Wx b fs σ H1 fun ys H2 => Q (xs ++ ys) H2) (f := f) h fun φ m ρ u v1 H1 S re r h => ?_)) fun v s1 ⟨x, H1, I1, rx, p, xs, ex, hsq, q1⟩ => ?_)
  · have key : ∀ (xs : List PyData) (vs : List V), DvAll X.K (hide φ H1) vs xs → HG X.K γ Wx σ (RWs X.K) b φ H1 ((fs ρ m).bind fun ws m2 => .ok (xs.map .d ++ ws) m2) Q → tWs X.K γ Wx b fs σ H1 fun ys H2 => Q (vs ++ ys) H2 := fun xs vs hd h =>
      ⟨φ, m, ρ, S, re, (h.bind (Rel := RWs X.K)).mono fun ys H2 ⟨φ2, m2, ws, x2, S2, r2, h2⟩ => h2.okI S2 ((rws_data hd).mono x2 |>.append r2)⟩
    cases hrd : rdW m u with
    | none => rw [hrd] at h; exact h.elim
    | some d =>
      rw [hrd] at h
      cases d with
      | tuple xs =>
        obtain ⟨a, vs, rfl, h1, h2, _⟩ := (rdW_rv S r hrd).tup
        exact ⟨a, vs, rfl, .inl h1, key xs vs h2 h⟩
      | list xs =>
        obtain ⟨a, vs, rfl, h1, h2⟩ := (rdW_rv S r hrd).seq
        exact ⟨a, vs, rfl, .inr h1, key xs vs h2 h⟩
      | _ => exact h.elim
  · subst ex
    obtain rfl : v = Value.ref p := rx
    exact StX.star_any I1 hsq fun us s2 I2 r2 => thn (hr.run pos' pins s2 σ H1 _ I2 q1) fun us' s3 ⟨ys, H3, I3, r3, q3⟩ => ⟨xs ++ ys, H3, I3, r2.append r3, q3⟩

/-! ### calls of defs -/
/-- a def's call keeps the table's promise -/
structure CallOk (X : Cx) (T : Tab) (γ : Nat → Addr) (Wx : WX) (j : Nat) (x : Str) : Prop where
  more : ∀ (b : Nat) (e : Expr) (es : List Expr) (fs : Env → List Cell → R (List W)) (p pos : Pos), (∀ y ∈ e :: es, isStar y = false) → PA X (e :: es) (tWs X.K γ Wx b fs) →
    PE X (.Call (.Name x p) (e :: es) [] pos) (tW X.K γ Wx b fun ρ m => (fs ρ m).bind fun ws m1 => T j b ws m1)
  none : ∀ (b : Nat) (p pos : Pos), PE X (.Call (.Name x p) [] [] pos) (tW X.K γ Wx b fun _ m => T j b [] m)
/-- what the def promises -/
def spT (K : PySem.W.Frag) (T : Tab) (γ : Nat → Addr) (n j : Nat) : Sp := fun vs H Q E => vs.length = n ∧ ∃ φ m ws b, SR K φ m H ∧ RWs K φ H ws vs ∧ HG K γ (fun c d _ H' => E c d H') [] (RW K) b φ H (T j b ws m) Q
theorem HG.toE {K : PySem.W.Frag} {σ : L2.St} {b : Nat} {φ : List (Option Addr)} {H : Hp} {r : R W} {Q : VK} (h : HG K γ Wx σ (RW K) b φ H r Q) : HG K γ (fun c d _ H' => WE Wx σ c d H') [] (RW K) b φ H r Q := by
  cases r with
  | ok a m => exact h
  | exc c m => exact h
  | bad => exact h
theorem callOk {T : Tab} {k n j : Nat} {fa : Addr} {fd : FuncData} {ps : List Str} {x : Str} (hps : ps.length = n) (hT : ∀ b ws m, ws.length ≠ n → T j b ws m = .bad) (F : FnOk X.prog X.w X.K X.mg X.base (L2.CX X.prog X.w) k fa fd ps (spT X.K T γ n j)) (hr : Room k X.A) (hg : Gl X x) (hm : X.mg x = some (.ref fa)) (hk : PySem.W.keepIn X.K (.ref fa) = true)
    (hb : Binds X.K fd ps []) (tk : Takes X Wx) (hdb : (x == ("__debug__" : Str)) = false) : CallOk X T γ Wx j x := by
  have main : ∀ {b : Nat} {σ : L2.St} {H : Hp} {Q : VK} {vs : List V} {φ : List (Option Addr)} {m : List Cell} {ws : List W}, SR X.K φ m H → RWs X.K φ H ws vs → HG X.K γ Wx σ (RW X.K) b φ H (T j b ws m) Q → spT X.K T γ n j vs H Q (WE Wx σ) := by
    intro b σ H Q vs φ m ws S r h
    refine ⟨?_, φ, m, ws, b, S, r, h.toE⟩
    by_cases hl : ws.length = n
    · rw [← r.length]; exact hl
    · rw [hT b ws m hl] at h; exact h.elim
  refine ⟨fun b e es fs p pos hes ha => ?_, fun b p pos => ?_⟩
  · exact (pe_callS F hr hg hm hk hb (fun σ => passAt tk σ) ha hdb (star_no e es X.env (hes e (by simp))) (any_no (fun y hy => hes y (by simp [hy])) X.env pos)).wk fun σ H Q ⟨φ, m, ρ, S, re, h⟩ =>
      ⟨φ, m, ρ, S, re, (h.bind (Rel := RWs X.K)).mono fun vs H1 ⟨φ1, m1, ws, x1, S1, rs, h1⟩ => main S1 rs h1⟩
  · refine ⟨fun pins s σ H Q I h => ?_⟩
    refine wpAny_Call_Name_kw (ld_glob I hg hm ?_ hdb)
    obtain ⟨φ, m, ρ, S, re, h⟩ := h
    exact PySem.W.callWith_K0 I.kIn hk (run_fnS (us := []) (E := WE Wx) F hr hb (passAt tk σ) I .nil (main S .nil h))
end
end PV
namespace PV
open PySem PySem.Spec PyProof.Rows L2
def biN : Bi → Str
  | .len => "len" | .int => "int" | .str => "str" | .list => "list" | .tuple => "tuple" | .sorted => "sorted" | .all => "all" | .any => "any"
def tyNm : Ty → Str
  | .int => "int" | .bool => "bool" | .str => "str" | .tuple => "tuple" | .list => "list"
theorem bi_boot (p : Bi) : bootBuiltins (biN p) = some (biV p) := by cases p <;> decide +kernel
theorem ty_boot (t : Ty) : bootBuiltins (tyNm t) = some (.type (tyS t)) := by cases t <;> decide +kernel
theorem bi_nm (p : Bi) : biN p ≠ "__name__" := by cases p <;> decide
theorem bi_db (p : Bi) : (biN p == ("__debug__" : Str)) = false := by cases p <;> decide
theorem ty_nm (p : Ty) : tyNm p ≠ "__name__" := by cases p <;> decide
theorem ty_db (p : Ty) : (tyNm p == ("__debug__" : Str)) = false := by cases p <;> decide
theorem kit_any2 {K : PySem.W.Frag} {T : String} {t1 t2 : String} {b1 b2 : Bool} (h1 : kitB T t1 = some b1) (h2 : kitB T t2 = some b2) : PySem.W.kitAny K (.type T) [.type t1, .type t2] = some (b1 || b2) := by
  unfold PySem.W.kitAny
  rw [kit_ty h1]
  cases b1 with
  | true => rfl
  | false =>
    show PySem.W.kitAny K (.type T) [.type t2] = some b2
    unfold PySem.W.kitAny
    rw [kit_ty h2]
    cases b2 <;> rfl
section
variable {X : Cx} {γ : Nat → Addr} {Wx : WX} {b : Nat} {e : Expr} {pos np np2 tp rp : Pos} {f g k : Env → List Cell → R W} {x y z : Expr} {es : List Expr} {fs : Env → List Cell → R (List W)}
theorem pa_oneW (hs : isStar x = false) (hx : PE X x (tW X.K γ Wx b f)) {Q : List V → Hp → Prop} : PA X [x] (tCons (tW X.K γ Wx b f) tNil) := pa_cons hx pa_nil (star_no x [] X.env hs)
/-- a built-in's call of one argument -/
theorem pe_biW (p : Bi) (hu : X.A.units + 70 < cLine) (hc : X.calm = true) (hg : Gl X (biN p)) (hm : X.mg (biN p) = none) (hs : isStar x = false) (hx : PE X x (tW X.K γ Wx b f)) :
    PE X (.Call (.Name (biN p) np) [x] [] pos) (tW X.K γ Wx b fun ρ m => (f ρ m).bind fun u m1 => ofO m1 ((rdW m1 u).bind fun u => (biD p u).map .d)) := by
  have ha : PA X [x] (tCons (tW X.K γ Wx b f) tNil) := pa_cons hx pa_nil (star_no x [] X.env hs)
  have key : ∀ σ H Q, tW X.K γ Wx b (fun ρ m => (f ρ m).bind fun u m1 => ofO m1 ((rdW m1 u).bind fun u => (biD p u).map .d)) σ H Q → tCB (rBi X.K p) (tCons (tW X.K γ Wx b f) tNil) σ H Q := fun σ H Q h => tG.then (f := f) h fun φ m ρ u v1 H1 S re r h => by
    obtain ⟨z, hz, h2⟩ := h.ofO
    obtain ⟨d, hd, hz⟩ := Option.bind_eq_some_iff.mp hz
    obtain ⟨d', hd', rfl⟩ := Option.map_eq_some_iff.mp hz
    exact ⟨φ, m, v1, d, d', rfl, S, rdW_rv S r hd, hd', h2.gd⟩
  have hcall := call_bi (X := X) p hu hc
  have hbt := bi_boot p
  have hn := bi_nm p
  have hd := bi_db p
  have he := star_no x [] X.env hs
  cases hp : biV p with
  | builtin id =>
    rw [hp] at hcall hbt
    exact (pe_callB hcall hg hm hbt ha hn hd he rfl).wk key
  | type T =>
    rw [hp] at hcall hbt
    exact (pe_callTy hcall hg hm hbt ha hn hd he rfl).wk key
  | _ => cases p <;> cases hp
/-- list(x), a cell from now on -/
theorem pe_listMW (hg : Gl X "list") (hm : X.mg "list" = none) (hs : isStar x = false) (hx : PE X x (tW X.K γ Wx b f)) :
    PE X (.Call (.Name "list" np) [x] [] pos) (tW X.K γ Wx b fun ρ m => (f ρ m).bind fun u m1 => (match (rdW m1 u).bind (biD .list) with
      | some (.list xs) => .ok (.l m1.length) (m1 ++ [.lst (xs.map .d)])
      | _ => .bad)) := by
  have ha : PA X [x] (tCons (tW X.K γ Wx b f) tNil) := pa_cons hx pa_nil (star_no x [] X.env hs)
  refine (pe_callTy call_list_of hg hm (bi_boot .list) ha (by decide) (by decide) (star_no x [] X.env hs) rfl).wk fun σ H Q h => tG.then (f := f) h fun φ m ρ u v1 H1 S re r h => ?_
  split at h
  · rename_i xs e
    obtain ⟨d, hd, hz⟩ := Option.bind_eq_some_iff.mp e
    have rv := rdW_rv S r hd
    unfold biD at hz
    split at hz <;> first | (cases hz; done) | skip
    all_goals first
      | (rename_i _ ds q; cases q; done)
      | (rename_i ds q
         cases hz
         first
         | (obtain ⟨a, vs, rfl, h1, h2⟩ := rv.seq
            exact ⟨a, vs, rfl, .inl h1, fun p hp => h.newcell S (rws_data h2) hp⟩)
         | (obtain ⟨a, vs, rfl, h1, h2, _⟩ := rv.tup
            exact ⟨a, vs, rfl, .inr h1, fun p hp => h.newcell S (rws_data h2) hp⟩))
  · exact h.elim

/-! ### isinstance -/
theorem Ty1.of {K : PySem.W.Frag} {φ : List (Option Addr)} {M : List Cell} {H : Hp} {w : W} {v : V} (S : SR K φ M H) (r : RW K φ H w v) (h : isVal M w = true) : ∃ T, Ty1 K φ M H w v T := by
  cases w with
  | d x => exact ⟨_, .dat r⟩
  | l n =>
    cases hm : M[n]? with
    | none => simp [isVal, hm] at h
    | some c => cases c with
      | lst ws =>
        obtain ⟨a, vs, rfl, _, ha, _⟩ := S.cellAt r hm
        exact ⟨_, .cell hm ha⟩
      | dead => simp [isVal, hm] at h
theorem pe_tyN (t : Ty) (hg : Gl X (tyNm t)) (hm : X.mg (tyNm t) = none) : PE X (.Name (tyNm t) np) (tC (.ty (tyS t))) := pe_bltn hg hm (ty_boot t) rfl (ty_nm t) (ty_db t)
theorem pe_isiW (t : Ty) (hg : Gl X "isinstance") (hm : X.mg "isinstance" = none) (hgt : Gl X (tyNm t)) (hmt : X.mg (tyNm t) = none) (hs : isStar x = false) (hx : PE X x (tW X.K γ Wx b f)) :
    PE X (.Call (.Name "isinstance" np) [x, .Name (tyNm t) np2] [] pos) (tW X.K γ Wx b fun ρ m => (f ρ m).bind fun u m1 => if isVal m1 u then .ok (.d (.bool (isiW t u))) m1 else .bad) := by
  have ha : PA X [x, .Name (tyNm t) np2] (tCons (tW X.K γ Wx b f) (tCons (tC (.ty (tyS t))) tNil)) := pa_cons hx (pa_cons (pe_tyN t hgt hmt) pa_nil) (star_no x _ X.env hs)
  refine (pe_callB call_isi hg hm PyProof.Rows.boot_isinstance ha (by decide) (by decide) (star_no x _ X.env hs) rfl).wk fun σ H Q h => tG.then (f := f) h fun φ m ρ u v1 H1 S re r h => ?_
  split at h
  · rename_i hv
    obtain ⟨T, ty⟩ := Ty1.of S r hv
    exact ⟨v1, .ty (tyS t), .type T, .type (tyS t), isiW t u, rfl, .ty _, ty.ty, ty.kit t, h.okI S (Dv.bl _)⟩
  · exact h.elim
theorem pe_isiTLW {kt : Nat} (hg : Gl X "isinstance") (hm : X.mg "isinstance" = none) (hgt : Gl X "tuple") (hmt : X.mg "tuple" = none) (hgl : Gl X "list") (hml : X.mg "list" = none) (hs : isStar x = false) (hx : PE X x (tW X.K γ Wx b f)) :
    PE X (.Call (.Name "isinstance" np) [x, .Tuple [.Name "tuple" tp, .Name "list" rp] kt np2] [] pos) (tW X.K γ Wx b fun ρ m => (f ρ m).bind fun u m1 => if isVal m1 u then .ok (.d (.bool (isiW .tuple u || isiW .list u))) m1 else .bad) := by
  have hT : PE X (.Tuple [.Name "tuple" tp, .Name "list" rp] kt np2) (tTup (tCons (tC (.ty "tuple")) (tCons (tC (.ty "list")) tNil))) := pe_tup (pa_cons (pe_tyN (np := tp) .tuple hgt hmt) (pa_cons (pe_tyN (np := rp) .list hgl hml) pa_nil))
  have ha := pa_cons hx (pa_cons hT pa_nil) (star_no x [.Tuple [.Name "tuple" tp, .Name "list" rp] kt np2] X.env hs)
  refine (pe_callB call_isiT hg hm PyProof.Rows.boot_isinstance ha (by decide) (by decide) (star_no x _ X.env hs) rfl).wk fun σ H Q h => tG.then (f := f) h fun φ m ρ u v1 H1 S re r h => ?_
  split at h
  · rename_i hv
    refine ⟨by show 2 ≤ sizeLine; rw [sizeLine_eq]; omega, fun p hp => ?_⟩
    have x1 : Ext b φ H1 φ (upd H1 p (.tup [.ty "tuple", .ty "list"])) := S.ext hp
    have S1 := S.data (o := .tup [.ty "tuple", .ty "list"]) hp
    have r1 := r.mono x1
    obtain ⟨T, ty⟩ := Ty1.of S1 r1 hv
    refine ⟨v1, p, [.ty "tuple", .ty "list"], .type T, [.type "tuple", .type "list"], _, rfl, upd_same, .cons (.ty _) (.cons (.ty _) .nil), ty.ty, ?_, (h.shift x1).okI S1 (Dv.bl _)⟩
    have k1 := ty.kit .tuple
    have k2 := ty.kit .list
    exact kit_any2 k1 k2
  · exact h.elim

/-! ### list(range(n)), tuple(range(n)) -/
theorem prg_W (hg : Gl X "range") (hm : X.mg "range" = none) (hs : isStar x = false) (hx : PE X x (tW X.K γ Wx b f)) : PRg X (.Call (.Name "range" rp) [x] [] pos) (tRg1 (tW X.K γ Wx b f)) := prg_1 hg hm hx (star_no x [] X.env hs)
theorem rgV_0 (i : Int) : rgV 0 i = (List.range i.toNat).map fun (k : Nat) => V.int ((k : Nat) : Int) := by
  unfold rgV
  rw [Int.sub_zero]
  exact List.map_congr_left fun a _ => by rw [Int.zero_add]
theorem dvAll_rg {K : PySem.W.Frag} {G : Hp} : ∀ l : List Nat, DvAll K G (l.map fun (k : Nat) => V.int ((k : Nat) : Int)) (l.map fun (k : Nat) => PyData.int ((k : Nat) : Int))
  | [] => .nil
  | k :: r => .cons (.int _) (dvAll_rg r)
theorem rngD_ok {K : PySem.W.Frag} {G : Hp} {i : Int} {xs : List PyData} (h : rngD i = some xs) : 0 ≤ i ∧ i ≤ 100000 ∧ DvAll K G (rgV 0 i) xs := by
  unfold rngD at h
  split at h
  · rename_i q
    cases h
    rw [rgV_0]
    exact ⟨q.1, q.2, dvAll_rg _⟩
  · cases h
theorem pe_lrngW (hc : X.calm = true) (hg : Gl X "list") (hm : X.mg "list" = none) (hgr : Gl X "range") (hmr : X.mg "range" = none) (hs : isStar x = false) (hx : PE X x (tW X.K γ Wx b f)) :
    PE X (.Call (.Name "list" np) [.Call (.Name "range" rp) [x] [] tp] [] pos) (tW X.K γ Wx b fun ρ m => (f ρ m).bind fun u m1 => (intOf m1 u).bind fun i _ => ofO m1 ((rngD i).map fun xs => .d (.list xs))) :=
  (pe_listRg hc hg hm (prg_W hgr hmr hs hx)).wk fun σ H Q h => tG.then (f := f) h fun φ m ρ u v1 H1 S re r h => by
    obtain ⟨i, rfl, h2⟩ := h.intOf
    obtain ⟨z, hz, h3⟩ := h2.ofO
    obtain ⟨xs, hr, rfl⟩ := Option.map_eq_some_iff.mp hz
    obtain ⟨h0, h1, hd⟩ := rngD_ok (K := X.K) (G := hide φ H1) hr
    exact ⟨i, (show Dv X.K (hide φ H1) v1 (.int i) from r).eint, RgOk.of_le (Int.le_refl 0) (by omega) (by omega) h0, fun q hq => h3.gd.lst S hd hq⟩
theorem pe_trngW (hc : X.calm = true) (hg : Gl X "tuple") (hm : X.mg "tuple" = none) (hgr : Gl X "range") (hmr : X.mg "range" = none) (hs : isStar x = false) (hx : PE X x (tW X.K γ Wx b f)) :
    PE X (.Call (.Name "tuple" np) [.Call (.Name "range" rp) [x] [] tp] [] pos) (tW X.K γ Wx b fun ρ m => (f ρ m).bind fun u m1 => (intOf m1 u).bind fun i _ => ofO m1 ((rngD i).map fun xs => .d (.tuple xs))) := by
  refine ⟨fun pins s σ H Q I h => ?_⟩
  have na : starEach [.Call (.Name "range" rp) [x] [] tp] X.env = (false, eval (.Call (.Name "range" rp) [x] [] tp) X.env) :: starEach [] X.env := rfl
  have h' : tRg1 (tW X.K γ Wx b f) σ H fun a c H1 => RgOk a c ∧ ∀ p o, H1 p = none → TupO o → Q (.ref p) (upd H1 p (.frz o (.tup (rgV a c)))) := tG.then (f := f) h fun φ m ρ u v1 H1 S re r h => by
    obtain ⟨i, rfl, h2⟩ := h.intOf
    obtain ⟨z, hz, h3⟩ := h2.ofO
    obtain ⟨xs, hr, rfl⟩ := Option.map_eq_some_iff.mp hz
    obtain ⟨h0, h1, hd⟩ := rngD_ok (K := X.K) (G := hide φ H1) hr
    exact ⟨i, (show Dv X.K (hide φ H1) v1 (.int i) from r).eint, RgOk.of_le (Int.le_refl 0) (by omega) (by omega) h0, fun p o hp ho => h3.gd.tup S hd ho hp⟩
  refine Call_ (ld_blt I hg hm boot_tuple (PyProof.Rows.callWith_type1 (args_cons (thn (prg_W hgr hmr hs hx pins s σ H _ I h') fun x s1 ⟨r, a, b, t, u, v, H1, ex, hr, I1, ok, q⟩ => args_nil ?_) na) na))
  subst ex
  obtain ⟨b1, b2, b3, b4, b5⟩ := ok
  refine call_tuple_range (n := (b - a).toNat) (I1.ok.hd hc) hr (small_one b1 b2 b3 b4) (rangeSize_nat a b) b5 fun h' tk acc hk hi => ?_
  have I2 : Inv X pins σ H1 { s1 with heap := h', toks := tk } := I1.kept hk
  exact ⟨.ref h'.objs.size, _, by
    have := Inv.tnew I2 (vals_rg hi) (by rw [rgV_length, sizeLine_eq]; omega)
    rw [Array.toArray_toList] at this
    exact this, rfl, q _ _ (I2.hok.fresh (Nat.le_refl _)) (tupO_new _)⟩

/-! ### subscripts, slices -/
theorem pe_ixW (hpl : PlainIx y) (hx : PE X x (tW X.K γ Wx b f)) (hy : PE X y (tW X.K γ Wx b g)) :
    PE X (.Subscript x y pos) (tW X.K γ Wx b fun ρ m => (f ρ m).bind fun u m1 => (g ρ m1).bind fun v m2 => (dataOf m2 v).bind fun v _ => ofO m2 (ixW m2 u v)) :=
  (pe_ix ix_W hx hy hpl).wk fun σ H Q h => tG.then (f := f) h fun φ m ρ u v1 H1 S re r h => ⟨φ, m, ρ, S, re, (h.bind (Rel := RW X.K)).mono fun v2 H2 ⟨φ2, m2, v, x2, S2, r2, h⟩ => by
    obtain ⟨d, rfl, h3⟩ := h.dataOf
    obtain ⟨z, hz, h4⟩ := h3.ofO
    exact ⟨φ2, m2, u, d, z, S2, r.mono x2, r2, hz, fun v' rz => h4.okI S2 rz⟩⟩
abbrev tO (K : PySem.W.Frag) (γ : Nat → Addr) (Wx : WX) (b : Nat) (f : Env → List Cell → R (Option Int)) : TO := tEq K γ Wx b f
variable {lo hi : Option Expr} {fl fh : Env → List Cell → R (Option Int)}
theorem po_noW : PO X none (tO X.K γ Wx b fun _ m => .ok none m) := po_none.wk fun σ H Q ⟨φ, m, ρ, S, re, h⟩ => HG.okI (a := (none : Option Int)) (m := m) h S rfl
theorem po_soW (hx : PE X x (tW X.K γ Wx b f)) : PO X (some x) (tO X.K γ Wx b fun ρ m => (f ρ m).bind fun w m1 => (intOf m1 w).bind fun i _ => .ok (some i) m1) :=
  (po_some hx).wk fun σ H Q h => tG.then (f := f) (g := fun ρ (w : W) (m1 : List Cell) => (intOf m1 w).bind fun i _ => .ok (some i) m1) h fun φ m ρ u v1 H1 S re r h => by
    obtain ⟨i, rfl, h2⟩ := h.intOf
    exact ⟨i, (show Dv X.K (hide φ H1) v1 (.int i) from r).eint, HG.okI (a := some i) (m := m) h2 S rfl⟩
theorem pe_slW {p2 : Pos} (hx : PE X x (tW X.K γ Wx b f)) (hl : PO X lo (tO X.K γ Wx b fl)) (hh : PO X hi (tO X.K γ Wx b fh)) :
    PE X (.Subscript x (.Slice lo hi none p2) pos) (tW X.K γ Wx b fun ρ m => (f ρ m).bind fun u m1 => (fl ρ m1).bind fun l m2 => (fh ρ m2).bind fun h m3 => ofO m3 ((rdW m3 u).bind fun u => (slD u l h).map .d)) :=
  (pe_slice sl_D hx hl hh).wk fun σ H Q h => tG.then (f := f) h fun φ m ρ u v1 H1 S re r h => ⟨φ, m, ρ, S, re, (h.bind (Rel := fun _ _ x y => x = y)).mono fun l H2 ⟨φ2, m2, l', x2, S2, r2, h⟩ => by
    subst r2
    exact ⟨φ2, m2, ρ, S2, re.mono x2, (HG.bind (Rel := fun _ _ x y => x = y) h).mono fun hh H3 ⟨φ3, m3, hh', x3, S3, r3, h⟩ => by
      subst r3
      obtain ⟨z, hz, h4⟩ := h.ofO
      obtain ⟨d, hd, hz⟩ := Option.bind_eq_some_iff.mp hz
      obtain ⟨d', hd', rfl⟩ := Option.map_eq_some_iff.mp hz
      exact ⟨φ3, m3, d, d', S3, rdW_rv S3 ((r.mono x2).mono x3) hd, hd', h4.gd⟩⟩⟩

/-! ### methods -/
def mtN : Mt → Str
  | .index => "index"
theorem seqTy {pins : List (Addr × Obj)} {σ : L2.St} {H : Hp} {s : Shared} {φ : List (Option Addr)} {M : List Cell} {w : W} {v : V} {u : Value} (I : Inv X pins σ H s) (S : SR X.K φ M H) (r : RW X.K φ H w v) (ru : RelV v u) (h : isSeqW M w = true) :
    ((∀ d M', rdW M' w = some d → ∃ ds, d = .list ds) ∧ s.TypeIs u "list" ∨ (∀ d M', rdW M' w = some d → ∃ ds, d = .tuple ds) ∧ s.TypeIs u "tuple") ∧ ∀ a, u = .ref a → ∃ o, s.heap.get? a = some o ∧ o.dict = none := by
  cases w with
  | l n =>
    cases hm : M[n]? with
    | none => simp [isSeqW, hm] at h
    | some c => cases c with
      | lst ws =>
        obtain ⟨a, vs, rfl, _, ha, _⟩ := S.cellAt r hm
        obtain ⟨h1, h2⟩ := tyV_is (T := "list") I ru (.inl ⟨rfl, vs, .inl (.inl ha)⟩)
        refine ⟨.inl ⟨fun d M' e => ?_, h1⟩, h2⟩
        cases hm' : M'[n]? with
        | none => simp [rdW, hm'] at e
        | some c => cases c with
          | lst ws' =>
            simp only [rdW, hm'] at e
            obtain ⟨ds, _, rfl⟩ := Option.map_eq_some_iff.mp e
            exact ⟨ds, rfl⟩
          | dead => simp [rdW, hm'] at e
      | dead => simp [isSeqW, hm] at h
  | d x =>
    cases x with
    | list ds =>
      obtain ⟨a, vs, rfl, h1, h2⟩ := (show Dv X.K (hide φ H) v (.list ds) from r).refL
      obtain ⟨h1, h2⟩ := tyV_is (T := "list") I ru (.inl ⟨rfl, vs, Same.seq hide_same h1⟩)
      exact ⟨.inl ⟨fun d M' e => ⟨ds, by cases e; rfl⟩, h1⟩, h2⟩
    | tuple ds =>
      obtain ⟨a, vs, rfl, h1, h2⟩ := (show Dv X.K (hide φ H) v (.tuple ds) from r).refT
      cases ru
      have hO : ∃ o, s.heap.get? a = some o ∧ TupO o := by
        rcases Same.seqX hide_same h1 with ⟨o, e, t⟩ | ⟨o, its, n, e, t, _⟩
        · obtain ⟨e1, _⟩ := (show ObjOk X.prog X.w H s.heap a (.frz o (.tup vs)) from I.hok a _ e)
          exact ⟨o, e1, t⟩
        · exact ⟨o, I.kIn a o e, t⟩
      obtain ⟨o, ho, hc, hd⟩ := hO
      refine ⟨.inr ⟨fun d M' e => ⟨ds, by cases e; rfl⟩, ⟨o, ho, hc⟩⟩, fun a' e => ?_⟩
      cases e
      exact ⟨o, ho, hd⟩
    | _ => simp [isSeqW] at h
theorem mt_step {φ : List (Option Addr)} {M : List Cell} {H : Hp} {k : Mt} {du dv z : PyData} {v1 v2 : V} {Q : VK} (S : SR X.K φ M H) (h1 : Rv X.K φ H v1 du) (h2 : Rv X.K φ H v2 dv) (e : mtD k du dv = some z) (g : GD X.K φ M z Q H) :
    ∃ i ds, (du = .list ds ∨ du = .tuple ds) ∧ min (PyData.depthAll ds) dv.depth ≤ 64 ∧ findD dv ds 0 = some i ∧ Q (.int (i : Nat)) H := by
  have key : ∀ ds, indexD ds dv = some z → ∃ i, min (PyData.depthAll ds) dv.depth ≤ 64 ∧ findD dv ds 0 = some i ∧ Q (.int (i : Nat)) H := fun ds e => by
    unfold indexD at e
    split at e
    · cases q1 : findD dv ds 0 with
      | none => rw [q1] at e; cases e
      | some i =>
        rw [q1] at e
        cases e
        exact ⟨i, by assumption, rfl, g.sc S (.int _)⟩
    · cases e
  unfold mtD at e
  split at e
  · rename_i ds
    obtain ⟨i, q⟩ := key ds e
    exact ⟨i, ds, .inl rfl, q⟩
  · rename_i ds
    obtain ⟨i, q⟩ := key ds e
    exact ⟨i, ds, .inr rfl, q⟩
  · cases e
theorem pe_mtW {apos : Pos} (k : Mt) (hu : X.A.units + 65 < cLine) (hs : isStar y = false) (hbase : attributeBase x (mtN k) X.env (eval x X.env) = eval x X.env) (hline : (apos.endLine == pos.line) = true) (hx : PE X x (tW X.K γ Wx b f)) (hy : PE X y (tW X.K γ Wx b g)) :
    PE X (.Call (.Attribute x (mtN k) apos) [y] [] pos) (tW X.K γ Wx b fun ρ m => (f ρ m).bind fun u m1 => if isSeqW m1 u then (g ρ m1).bind fun v m2 => ofO m2 ((rdW m2 u).bind fun u => (rdW m2 v).bind fun v => (mtD k u v).map .d) else .bad) := by
  refine ⟨fun pins s σ H Q I h => ?_⟩
  have hst := star_no y [] X.env hs
  have htr : backTo pos (starEach [y] X.env) = [(false, eval y X.env)] := by rw [hst]; rfl
  refine wpAny_Call_method1_late hbase hline htr (thn (hx.run pins s σ H (fun v1 H1 => ∃ φ m ρ u, SR X.K φ m H1 ∧ RE X.K φ H1 ρ σ ∧ RW X.K φ H1 u v1 ∧ isSeqW m u = true ∧ HG X.K γ Wx σ (RW X.K) b φ H1 ((g ρ m).bind fun v m2 => ofO m2 ((rdW m2 u).bind fun u => (rdW m2 v).bind fun v => (mtD k u v).map .d)) Q) I (tG.then (f := f) h fun φ m ρ u v1 H1 S re r h => ?_)) fun v s1 ⟨v1, H1, I1, rv, φ, m, ρ, u, S, re, r, hseq, h⟩ => ?_)
  · split at h
    · rename_i hq
      exact ⟨φ, m, ρ, u, S, re, r, hq, h⟩
    · exact h.elim
  · obtain ⟨hty, hdn⟩ := seqTy I1 S r rv hseq
    -- the rest, by what is known of the receiver's type
    have rest : ∀ (T id : String), (∀ (pins : List (Addr × Obj)) (s : Shared) (σ : L2.St) (H : Hp) (u2 : Value) (v2 : V) (du dv : PyData) (Q : VK), Inv X pins σ H s → RelV v2 u2 → (∃ M', rdW M' u = some du) → Rdv X.K H v1 du → Rdv X.K H v2 dv → (∃ i ds, (du = .list ds ∨ du = .tuple ds) ∧ min (PyData.depthAll ds) dv.depth ≤ 64 ∧ findD dv ds 0 = some i ∧ Q (.int (i : Nat)) H) → wpAny (model X.prog X.w) X.A (call (.builtin id) [v, u2]) (EP X pins σ Q) X.xe s) →
        wpAny (model X.prog X.w) X.A (callWith pos (.builtin id) [v] [(false, eval y X.env)] []) (EP X pins σ Q) X.xe s1 := fun T id hcall => by
      refine Calls.callWith_builtin rfl (Calls.evalArgs_plain (Calls.spliced_cons (thn (hy.run pins s1 σ H1 _ I1 ⟨φ, m, ρ, S, re, h.bind (Rel := RW X.K)⟩) fun u2 s2 ⟨v2, H2, I2, rv2, φ2, m2, w2, x2, S2, r2, h2⟩ => Calls.spliced_nil ?_)))
      obtain ⟨z, hz, h3⟩ := h2.ofO
      obtain ⟨du, hdu, hz⟩ := Option.bind_eq_some_iff.mp hz
      obtain ⟨dv, hdv, hz⟩ := Option.bind_eq_some_iff.mp hz
      obtain ⟨d', hd', rfl⟩ := Option.map_eq_some_iff.mp hz
      have q1 := rdW_rv S2 (r.mono x2) hdu
      have q2 := rdW_rv S2 r2 hdv
      exact hcall pins s2 σ H2 u2 v2 du dv Q I2 rv2 ⟨_, hdu⟩ q1.rdv q2.rdv (mt_step S2 q1 q2 hd' h3.gd)
    cases k with
    | index =>
    rcases hty with ⟨hd, ht⟩ | ⟨hd, ht⟩
    · refine ⟨"list", "list.index", PySem.F.plainAttrs_list, PySem.F.slot_list_index, PySem.F.type_list_index, ht, hdn, rest "list" "list.index" fun pins s σ H u2 v2 du dv Q I r2 ⟨M', hdu⟩ q1 q2 ⟨i, ds, hds, hdep, hf, q⟩ => ?_⟩
      obtain ⟨ds', rfl⟩ := hd du M' hdu
      rcases hds with hds | hds
      · cases hds
        exact mt_idxL hu pins s σ H v1 [v2] v [u2] Q I rv (.cons r2 .nil) ⟨v2, dv, ds, i, rfl, q1, q2, hdep, hf, q⟩
      · cases hds
    · refine ⟨"tuple", "tuple.index", PySem.F.plainAttrs_tuple, PySem.F.slot_tuple_index, PySem.F.type_tuple_index, ht, hdn, rest "tuple" "tuple.index" fun pins s σ H u2 v2 du dv Q I r2 ⟨M', hdu⟩ q1 q2 ⟨i, ds, hds, hdep, hf, q⟩ => ?_⟩
      obtain ⟨ds', rfl⟩ := hd du M' hdu
      rcases hds with hds | hds
      · cases hds
      · cases hds
        exact mt_idxT hu pins s σ H v1 [v2] v [u2] Q I rv (.cons r2 .nil) ⟨v2, dv, ds, i, rfl, q1, q2, hdep, hf, q⟩
end
end PV
namespace PV
open PySem PySem.Spec PyProof.Rows L2

/-! ### results, turned round -/
theorem R.bind_ok {α β : Type} {r : R α} {f : α → List Cell → R β} {x : β} {m : List Cell} (h : r.bind f = .ok x m) : ∃ a m1, r = .ok a m1 ∧ f a m1 = .ok x m := by
  cases r with
  | ok a m1 => exact ⟨a, m1, rfl, h⟩
  | exc _ _ => cases h
  | bad => cases h
theorem R.nox_ok {α : Type} {r : R α} {x : α} {m : List Cell} (h : r.nox = .ok x m) : r = .ok x m := by
  cases r with
  | ok a m1 => exact h
  | exc _ _ => cases h
  | bad => cases h
theorem R.nox_exc {α : Type} {r : R α} {c : Nat} {m : List Cell} (h : r.nox = .exc c m) : False := by
  cases r <;> cases h

/-! ### wiped names -/
theorem wipe_in {σ : L2.St} {j : Nat} : ∀ {vs : List Nat}, j ∈ vs → (L2.wipe σ vs)[j]? = if j < σ.length then some none else none
  | v :: vs, h => by
    unfold L2.wipe
    by_cases e : v = j
    · subst e
      by_cases hv : v < σ.length
      · rw [List.getElem?_set_self (by rw [wipe_length]; exact hv), if_pos hv]
      · rw [List.getElem?_eq_none (by rw [List.length_set, wipe_length]; omega), if_neg hv]
    · rw [List.getElem?_set_ne e]
      exact wipe_in ((List.mem_cons.mp h).resolve_left fun z => e z.symm)
theorem wipe_set {σ : L2.St} {i : Nat} {x : Option V} {vs : List Nat} (h : i ∈ vs) : L2.wipe (σ.set i x) vs = L2.wipe σ vs := by
  refine List.ext_getElem? fun j => ?_
  by_cases hj : j ∈ vs
  · rw [wipe_in hj, wipe_in hj, List.length_set]
  · rw [wipe_out hj, wipe_out hj, List.getElem?_set_ne (fun e => hj (by rw [← e]; exact h))]
theorem wipe_wipe {σ : L2.St} {vs : List Nat} : L2.wipe (L2.wipe σ vs) vs = L2.wipe σ vs := by
  refine List.ext_getElem? fun j => ?_
  by_cases hj : j ∈ vs
  · rw [wipe_in hj, wipe_in hj, wipe_length]
  · rw [wipe_out hj]

/-! ### targets -/
def Tg.ins : Tg → List Nat
  | .name i => [i]
  | .pair i j => [i, j]
def Tg.isPair : Tg → Bool
  | .name _ => false
  | .pair _ _ => true
def gOf (K : PySem.W.Frag) : Tg → TG
  | .name i => gName i
  | .pair i j => gTup K 2 (gCons (gName i) (gCons (gName j) gNil))
/-- a pair that is not data: its two items are -/
def RP (K : PySem.W.Frag) (φ : List (Option Addr)) (H : Hp) (w : W) (x : V) : Prop := RW K φ H w x ∨ ∃ d e a v u, w = .d (.tuple [d, e]) ∧ x = .ref a ∧ SqT K H a [v, u] ∧ Dv K (hide φ H) v d ∧ Dv K (hide φ H) u e
def itR (pr : Bool) (K : PySem.W.Frag) (φ : List (Option Addr)) (H : Hp) (w : W) (x : V) : Prop := match pr with
  | true => RP K φ H w x
  | false => RW K φ H w x
section
variable {K : PySem.W.Frag} {φ φ' φ0 φ1 : List (Option Addr)} {H H' H0 H1 : Hp} {m m' m1 : List Cell} {b : Nat} {ρ ρ' : Env} {σ : L2.St} {w : W} {x : V}
theorem tgD_pair {i j : Nat} (e : tgD (.pair i j) w ρ = some ρ') : ∃ d1 d2, w = .d (.tuple [d1, d2]) := by
  cases w with
  | l n => cases e
  | d x =>
    cases x with
    | tuple xs =>
      match xs, e with
      | [d1, d2], _ => exact ⟨d1, d2, rfl⟩
      | [], e => cases e
      | [_], e => cases e
      | _ :: _ :: _ :: _, e => cases e
    | _ => cases e
theorem tg_step {pr : Bool} {t : Tg} {Q : L2.St → Hp → Prop} (hr : itR pr K φ H w x) (hp : pr = true → t.isPair = true) (e : tgD t w ρ = some ρ') (re : RE K φ H ρ σ)
    (q : ∀ σ', RE K φ H ρ' σ' → (∀ vs, (∀ i ∈ t.ins, i ∈ vs) → L2.wipe σ' vs = L2.wipe σ vs) → Q σ' H) : gOf K t x σ H Q := by
  cases t with
  | name i =>
    have hr : RW K φ H w x := by
      cases pr with
      | true => cases hp rfl
      | false => exact hr
    unfold tgD at e
    cases e
    exact q _ (re.set hr) fun vs h => wipe_set (h i (by simp [Tg.ins]))
  | pair i j =>
    have key : ∀ d1 d2 a v u, w = .d (.tuple [d1, d2]) → x = .ref a → SqT K H a [v, u] → Dv K (hide φ H) v d1 → Dv K (hide φ H) u d2 → gOf K (.pair i j) x σ H Q := by
      intro d1 d2 a v u hw hx hs h1 h2
      subst hw hx
      unfold tgD at e
      cases e
      refine ⟨a, [v, u], rfl, hs, rfl, v, [u], rfl, u, [], rfl, rfl, q _ ((re.set (w := .d d1) h1).set (w := .d d2) h2) fun vs h => ?_⟩
      rw [wipe_set (h j (by simp [Tg.ins])), wipe_set (h i (by simp [Tg.ins]))]
    have key2 : RW K φ H w x → gOf K (.pair i j) x σ H Q := fun hr => by
      obtain ⟨d1, d2, hw⟩ := tgD_pair e
      rw [hw] at hr
      obtain ⟨a, vs, hx, h1, h2⟩ := (show Dv K (hide φ H) x (.tuple [d1, d2]) from hr).refT
      cases h2 with
      | cons q1 q2 =>
        cases q2 with
        | cons q2 q3 =>
          cases q3
          exact key d1 d2 a _ _ hw hx (Same.seqT hide_same h1.sq) q1 q2
    cases pr with
    | false => exact key2 hr
    | true =>
      rcases hr with hr | ⟨d1, d2, a, v, u, h1, h2, h3, h4, h5⟩
      · exact key2 hr
      · exact key d1 d2 a v u h1 h2 h3 h4 h5

/-! ### what is walked -/
/-- from here on J hands out the source's items -/
def Feed (pr : Bool) (K : PySem.W.Frag) (φ0 : List (Option Addr)) (H0 : Hp) (s : Src) (J : L2.It) : Prop :=
  ∀ φ m H, Ext 0 φ0 H0 φ H → SR K φ m H → ∀ i, match s.at m i with
    | some (some w) => J.go i H ∧ ∀ x H', J.yld i H x H' → Grow φ H H' ∧ SR K φ m H' ∧ itR pr K φ H' w x
    | some none => J.stop i H
    | none => True
abbrev tI (pr : Bool) (K : PySem.W.Frag) (γ : Nat → Addr) (Wx : WX) (b : Nat) (f : Env → List Cell → R Src) : TI := tG K γ Wx b (Feed pr K) f
def Src.fuel : Src → Nat
  | .d xs => xs.length + 1
  | .l _ => lim + 2
theorem fldN_d (step : W → List Cell → R Unit) (xs : List PyData) : ∀ (k i : Nat) (m : List Cell), xs.length - i < k → fldN step (.d xs) k i m = fldD step (xs.drop i) m
  | 0, i, m, h => absurd h (Nat.not_lt_zero _)
  | k + 1, i, m, h => by
    unfold fldN
    show (match (some (xs[i]?.map W.d) : Option (Option W)) with
      | some (some w) => (step w m).bind fun _ m' => fldN step (.d xs) k (i + 1) m'
      | some none => R.ok () m
      | none => .bad) = _
    by_cases hi : i < xs.length
    · rw [List.getElem?_eq_getElem hi, List.drop_eq_getElem_cons hi]
      show ((step (.d xs[i]) m).bind fun _ m' => fldN step (.d xs) k (i + 1) m') = (step (.d xs[i]) m).bind fun _ m' => fldD step (xs.drop (i + 1)) m'
      congr 1
      funext _ m'
      exact fldN_d step xs k (i + 1) m' (by omega)
    · rw [List.getElem?_eq_none (by omega), List.drop_eq_nil_of_le (by omega)]
      rfl
theorem fldS_N (step : W → List Cell → R Unit) (s : Src) (m : List Cell) : fldS step s m = fldN step s s.fuel 0 m := by
  cases s with
  | d xs => exact (fldN_d step xs _ 0 m (by show xs.length - 0 < xs.length + 1; omega)).symm
  | l n => rfl
theorem forN_d (f : Env → W → List Cell → R Fl) (xs : List PyData) : ∀ (k i : Nat) (ρ : Env) (m : List Cell), xs.length - i < k → forN f (.d xs) k i ρ m = forD f (xs.drop i) ρ m
  | 0, i, ρ, m, h => absurd h (Nat.not_lt_zero _)
  | k + 1, i, ρ, m, h => by
    unfold forN
    show (match (some (xs[i]?.map W.d) : Option (Option W)) with
      | some (some w) => (f ρ w m).bind fun fl m' => (match fl with
        | .nx ρ' => forN f (.d xs) k (i + 1) ρ' m'
        | .rt v => R.ok (Fl.rt v) m')
      | some none => R.ok (Fl.nx ρ) m
      | none => .bad) = _
    by_cases hi : i < xs.length
    · rw [List.getElem?_eq_getElem hi, List.drop_eq_getElem_cons hi]
      show ((f ρ (.d xs[i]) m).bind fun fl m' => (match fl with
        | .nx ρ' => forN f (.d xs) k (i + 1) ρ' m'
        | .rt v => R.ok (Fl.rt v) m')) = (f ρ (.d xs[i]) m).bind fun fl m' => (match fl with
        | .nx ρ' => forD f (xs.drop (i + 1)) ρ' m'
        | .rt v => R.ok (Fl.rt v) m')
      congr 1
      funext fl m'
      cases fl with
      | nx ρ' => exact forN_d f xs k (i + 1) ρ' m' (by omega)
      | rt v => rfl
    · rw [List.getElem?_eq_none (by omega), List.drop_eq_nil_of_le (by omega)]
      rfl
theorem forS_N (f : Env → W → List Cell → R Fl) (s : Src) (ρ : Env) (m : List Cell) : forS f s ρ m = forN f s s.fuel 0 ρ m := by
  cases s with
  | d xs => exact (forN_d f xs _ 0 ρ m (by show xs.length - 0 < xs.length + 1; omega)).symm
  | l n => rfl

/-! ### a comprehension's list -/
def Al (φ : List (Option Addr)) (n : Nat) (D : Addr) : Prop := φ[n]? = some (some D) ∨ φ[n]? = some none
theorem Al.mono {n : Nat} {D : Addr} (h : Al φ n D) (x : Ext b φ H φ' H') : Al φ' n D := by
  rcases h with h | h
  · rcases x.ext n _ h with q | ⟨_, q⟩
    · exact .inl q
    · exact .inr q
  · rcases x.ext n _ h with q | ⟨_, q⟩
    · exact .inr q
    · exact .inr q
theorem Al.at {n : Nat} {D : Addr} {ws : List W} (h : Al φ n D) (S : SR K φ m H) (e : m[n]? = some (.lst ws)) : φ[n]? = some (some D) ∧ ∃ vs, H D = some (.lst vs) ∧ RWs K φ H ws vs := by
  rcases S.cell n _ e with ⟨z, _⟩ | ⟨a, ha, vs, hv, rs⟩
  · cases z
  · rcases h with h | h
    · rw [h] at ha
      cases ha
      exact ⟨h, vs, hv, rs⟩
    · rw [h] at ha; cases ha
/-- a cell that came later is written -/
theorem Ext.write (x : Ext b φ0 H0 φ H) {n : Nat} {a : Addr} {o : HO} (hn : φ0.length ≤ n) (ha : φ[n]? = some (some a)) (ht : H a ≠ none) : Ext b φ0 H0 φ (upd H a o) where
  ext := x.ext
  new := x.new
  keep := fun c u hc h => by
    have hne : c ≠ a := fun z => by
      subst z
      rcases x.new n c ha with q | ⟨_, q⟩
      · rw [List.getElem?_eq_none hn] at q; cases q
      · rw [q] at h; cases h
    rw [upd_ne hne]
    exact x.keep c u hc h
  there := fun c h => by
    by_cases e : c = a
    · subst e; rw [upd_same] at h; cases h
    · rw [upd_ne e] at h; exact x.there c h
theorem push_ok {n : Nat} {D : Addr} {y : V} (al : Al φ n D) (S : SR K φ m H) (e : pushC n w m = .ok () m') (r : RW K φ H w y) (x : Ext b φ0 H0 φ H) (hn : φ0.length ≤ n) :
    ∃ acc, H D = some (.lst acc) ∧ acc.length < sizeLine ∧ SR K φ m' (upd H D (.lst (acc ++ [y]))) ∧ Ext b φ0 H0 φ (upd H D (.lst (acc ++ [y]))) := by
  unfold pushC at e
  split at e
  · rename_i ws hm
    split at e
    · rename_i hl
      cases e
      obtain ⟨ha, vs, hv, rs⟩ := al.at S hm
      have l1 := rs.length
      have l2 := lim_size
      have x1 : Ext 0 φ H φ (upd H D (.lst (vs ++ [y]))) := S.ext_write (Nat.zero_le _) ha
      exact ⟨vs, hv, by omega, S.write ha ⟨_, upd_same, (rs.mono x1).append (.cons (r.mono x1) .nil)⟩, x.write hn ha (by rw [hv]; simp)⟩
    · cases e
  · cases e
theorem SR.kill {n : Nat} (S : SR K φ m H) : SR K (φ.set n none) (m.set n .dead) H where
  nd := fun i j a h1 h2 => by
    have f : ∀ i : Nat, (φ.set n none)[i]? = some (some a) → φ[i]? = some (some a) := fun i h => by
      by_cases e : n = i
      · subst e
        by_cases hn : n < φ.length
        · rw [List.getElem?_set_self hn] at h; cases h
        · rw [List.getElem?_eq_none (by simpa using hn)] at h; cases h
      · rw [List.getElem?_set_ne e] at h; exact h
    exact S.nd i j a (f i h1) (f j h2)
  len := by simp [S.len]
  cell := fun i c h => by
    by_cases e : n = i
    · subst e
      by_cases hn : n < m.length
      · rw [List.getElem?_set_self hn] at h
        cases h
        exact .inl ⟨rfl, List.getElem?_set_self (by rw [S.len]; exact hn)⟩
      · rw [List.getElem?_eq_none (by simpa using hn)] at h; cases h
    · rw [List.getElem?_set_ne e] at h
      rw [List.getElem?_set_ne e]
      have x : Ext 0 φ H (φ.set n none) H := by
        refine ⟨fun j o h => ?_, fun j a h => ?_, fun _ _ _ h => h, fun _ h => h⟩
        · by_cases e : n = j
          · subst e
            exact .inr ⟨Nat.zero_le _, List.getElem?_set_self (List.getElem?_eq_some_iff.mp h).1⟩
          · rw [List.getElem?_set_ne e]; exact .inl h
        · by_cases e : n = j
          · subst e
            by_cases hn : n < φ.length
            · rw [List.getElem?_set_self hn] at h; cases h
            · rw [List.getElem?_eq_none (by simpa using hn)] at h; cases h
          · rw [List.getElem?_set_ne e] at h; exact .inl h
      exact (S.cell i c h).imp_right fun ⟨a, e', r⟩ => ⟨a, e', r.mono x rfl⟩
theorem Ext.kill {n : Nat} (x : Ext b φ0 H0 φ H) (hn : φ0.length ≤ n) : Ext b φ0 H0 (φ.set n none) H where
  ext := fun i o h => by
    have hi := (List.getElem?_eq_some_iff.mp h).1
    rw [List.getElem?_set_ne (by omega)]
    exact x.ext i o h
  new := fun i a h => by
    by_cases e : n = i
    · subst e
      by_cases hn : n < φ.length
      · rw [List.getElem?_set_self hn] at h; cases h
      · rw [List.getElem?_eq_none (by simpa using hn)] at h; cases h
    · rw [List.getElem?_set_ne e] at h
      exact x.new i a h
  keep := x.keep
  there := x.there
theorem hide_kill {n : Nat} {D : Addr} (S : SR K φ m H) (ha : φ[n]? = some (some D)) : ∀ o, H D = some o → hide (φ.set n none) H D = some o := fun o h => hide_in h (not_mem_of fun i e => by
  by_cases z : n = i
  · subst z
    by_cases hn : n < φ.length
    · rw [List.getElem?_set_self hn] at e; cases e
    · rw [List.getElem?_eq_none (by simpa using hn)] at e; cases e
  · rw [List.getElem?_set_ne z] at e
    exact z (S.nd n i D ha e))
theorem hid_kill {n : Nat} : Same (hide φ H) (hide (φ.set n none) H) := fun a o h => by
  obtain ⟨h1, h2⟩ := hide_of h
  refine hide_in h1 (not_mem_of fun i e => ?_)
  by_cases z : n = i
  · subst z
    by_cases hn : n < φ.length
    · rw [List.getElem?_set_self hn] at e; cases e
    · rw [List.getElem?_eq_none (by simpa using hn)] at e; cases e
  · rw [List.getElem?_set_ne z] at e
    exact h2 (List.mem_of_getElem? e)
theorem rws_wsD : ∀ {ws : List W} {vs : List V} {ds : List PyData}, RWs K φ H ws vs → wsD ws = some ds → DvAll K (hide φ H) vs ds := fun r e => wsD_vals r e
theorem fin_ok {γ : Nat → Addr} {Wx : WX} {n : Nat} {D : Addr} {Q : VK} (al : Al φ n D) (S : SR K φ m H) (x : Ext b φ0 H0 φ H) (hn : φ0.length ≤ n) (h : HG K γ Wx σ (RW K) b φ0 H0 (finC n m) Q) : Q (.ref D) H := by
  unfold finC at h
  split at h
  · rename_i ws hm
    split at h
    · rename_i ds hd
      obtain ⟨ha, vs, hv, rs⟩ := al.at S hm
      exact h _ H (.ref D) (x.kill hn) S.kill (.lst (.inl (.inl (hide_kill S ha _ hv))) (DvAll.mono hid_kill _ _ (wsD_vals rs hd)))
    · exact h.elim
  · exact h.elim
end
end PV
namespace PV
open PySem PySem.Spec PyProof.Rows L2
abbrev WF : WX := fun _ _ _ _ => False
def cS (t : Tg) (own : List Nat) (fc : Env → List Cell → R Bool) (fe : Env → List Cell → R W) (n : Nat) (ρ : Env) : W → List Cell → R Unit := fun w m => match tgD t w (wipeE ρ own) with
  | some ρ' => ((fc ρ' m).bind fun k m2 => if k then (fe ρ' m2).bind fun v m3 => pushC n v m3 else .ok () m2).nox
  | none => .bad
def cS1 (t1 : Tg) (own1 : List Nat) (fc1 : Env → List Cell → R Bool) (fe : Env → List Cell → R W) (n : Nat) (ρ' : Env) : W → List Cell → R Unit := fun w m => match tgD t1 w (wipeE ρ' own1) with
  | some ρ2 => (fc1 ρ2 m).bind fun k m4 => if k then (fe ρ2 m4).bind fun v m5 => pushC n v m5 else .ok () m4
  | none => .bad
def cS2 (t : Tg) (own : List Nat) (fc : Env → List Cell → R Bool) (fi1 : Env → List Cell → R Src) (t1 : Tg) (own1 : List Nat) (fc1 : Env → List Cell → R Bool) (fe : Env → List Cell → R W) (n : Nat) (ρ : Env) : W → List Cell → R Unit := fun w m => match tgD t w (wipeE ρ own) with
  | some ρ' => ((fc ρ' m).bind fun k m2 => if k then (fi1 ρ' m2).bind fun s1 m3 => fldS (cS1 t1 own1 fc1 fe n ρ') s1 m3 else .ok () m2).nox
  | none => .bad
theorem cS_noexc {t : Tg} {own : List Nat} {fc : Env → List Cell → R Bool} {fe : Env → List Cell → R W} {n : Nat} {ρ : Env} {w : W} {m m' : List Cell} {c : Nat} (h : cS t own fc fe n ρ w m = .exc c m') : False := by
  unfold cS at h
  split at h
  · exact R.nox_exc h
  · cases h
theorem cS2_noexc {t t1 : Tg} {own own1 : List Nat} {fc fc1 : Env → List Cell → R Bool} {fi1 : Env → List Cell → R Src} {fe : Env → List Cell → R W} {n : Nat} {ρ : Env} {w : W} {m m' : List Cell} {c : Nat} (h : cS2 t own fc fi1 t1 own1 fc1 fe n ρ w m = .exc c m') : False := by
  unfold cS2 at h
  split at h
  · exact R.nox_exc h
  · cases h
section
variable {K : PySem.W.Frag} {γ : Nat → Addr} {Wx : WX} {b : Nat} {fi fi1 : Env → List Cell → R Src} {fc fc1 : Env → List Cell → R Bool} {fe : Env → List Cell → R W} {t t1 : Tg} {own own1 : List Nat} {pr pr1 : Bool} {σ : L2.St} {H : Hp} {Q : VK}
theorem lcW (ht : ∀ i ∈ t.ins, i ∈ own) (hp : pr = true → t.isPair = true)
    (h : tW K γ Wx b (fun ρ m => (fi ρ m).bind fun s m1 => (fldS (cS t own fc fe m1.length ρ) s (m1 ++ [.lst []])).bind fun _ m2 => finC m1.length m2) σ H Q) :
    tLc (tI pr K γ Wx b fi) (gOf K t) (tEq K γ WF b fc) (tW K γ WF b fe) own σ H Q := by
  refine tG.then (f := fi) (Rel := Feed pr K) h fun φ1 m1 ρ s J H1 S re feed h => ?_
  intro D hD
  rw [fldS_N] at h
  have hn : φ1.length ≤ m1.length := by rw [S.len]; exact Nat.le_refl _
  refine ⟨fun i k H => ∃ φ m, SR K φ m H ∧ Ext b φ1 H1 φ H ∧ Al φ m1.length D ∧ HG K γ Wx σ (RW K) b φ1 H1 ((fldN (cS t own fc fe m1.length ρ) s k i m).bind fun _ m2 => finC m1.length m2) Q,
    ⟨s.fuel, φ1 ++ [some D], _, S.new_cell hD (c := .lst []) ⟨[], upd_same, .nil⟩, S.ext_cell hD, .inl ?_, h⟩, ?_⟩
  · rw [List.getElem?_append_right hn, S.len, Nat.sub_self]; rfl
  rintro i k H ⟨φ, m, S, x, al, h⟩
  cases k with
  | zero => exact h.elim
  | succ k =>
    have fd := feed φ m H (x.mono (Nat.zero_le _)) S i
    unfold fldN at h
    cases hs : s.at m i with
    | none => rw [hs] at h; exact h.elim
    | some o =>
      rw [hs] at h fd
      cases o with
      | none => exact .inl ⟨fd, fin_ok al S x hn h⟩
      | some w =>
        obtain ⟨go, yl⟩ := fd
        refine .inr ⟨go, ?_⟩
        have h : HG K γ Wx σ (RW K) b φ1 H1 (((cS t own fc fe m1.length ρ w m).bind fun _ m' => fldN (cS t own fc fe m1.length ρ) s k (i + 1) m').bind fun _ m2 => finC m1.length m2) Q := h
        cases hq : cS t own fc fe m1.length ρ w m with
        | bad => rw [hq] at h; exact h.elim
        | exc c m' => exact (cS_noexc hq).elim
        | ok u m' =>
          rw [hq] at h
          refine ⟨fun H' => ∃ φ', SR K φ' m' H' ∧ Ext b φ1 H1 φ' H' ∧ Al φ' m1.length D, fun H' ⟨φ', S', x', al'⟩ => ⟨k, Nat.lt_succ_self _, φ', m', S', x', al', h⟩, fun xv H' hy => ?_⟩
          obtain ⟨gr, S', ir⟩ := yl xv H' hy
          unfold cS at hq
          split at hq
          · rename_i ρ' ht'
            obtain ⟨kk, m2, h1, h2⟩ := R.bind_ok (R.nox_ok hq)
            have xx := x.trans (gr b)
            refine tg_step ir hp ht' ((re.mono xx).wipe own) fun σ2 re2 hw => ⟨?_, ?_⟩
            · rw [hw own ht, wipe_wipe]
            · refine ⟨φ, m, ρ', S', re2, ?_⟩
              rw [h1]
              intro φ2 H2 bb x2 S2 e
              subst e
              cases kk with
              | false =>
                cases h2
                exact iteF ⟨φ2, S2, xx.trans x2, al.mono x2⟩
              | true =>
                obtain ⟨v, m3, h3, h4⟩ := R.bind_ok h2
                refine iteT ⟨φ2, m2, ρ', S2, re2.mono x2, ?_⟩
                rw [h3]
                intro φ3 H3 y x3 S3 ry
                have al3 := (al.mono x2).mono x3
                obtain ⟨acc, q1, q2, q3, q4⟩ := push_ok al3 S3 h4 ry ((xx.trans x2).trans x3) hn
                exact ⟨acc, q1, q2, φ3, q3, q4, al3⟩
          · cases hq
theorem lc2W (ht : ∀ i ∈ t.ins, i ∈ own) (hp : pr = true → t.isPair = true) (ht1 : ∀ i ∈ t1.ins, i ∈ own1) (hp1 : pr1 = true → t1.isPair = true)
    (h : tW K γ Wx b (fun ρ m => (fi ρ m).bind fun s m1 => (fldS (cS2 t own fc fi1 t1 own1 fc1 fe m1.length ρ) s (m1 ++ [.lst []])).bind fun _ m2 => finC m1.length m2) σ H Q) :
    tLc2 (tI pr K γ Wx b fi) (gOf K t) (tEq K γ WF b fc) (tI pr1 K γ WF b fi1) (gOf K t1) (tEq K γ WF b fc1) (tW K γ WF b fe) own own1 σ H Q := by
  refine tG.then (f := fi) (Rel := Feed pr K) h fun φ1 m1 ρ s J H1 S re feed h => ?_
  intro D hD
  rw [fldS_N] at h
  have hn : φ1.length ≤ m1.length := by rw [S.len]; exact Nat.le_refl _
  refine ⟨fun i k H => ∃ φ m, SR K φ m H ∧ Ext b φ1 H1 φ H ∧ Al φ m1.length D ∧ HG K γ Wx σ (RW K) b φ1 H1 ((fldN (cS2 t own fc fi1 t1 own1 fc1 fe m1.length ρ) s k i m).bind fun _ m2 => finC m1.length m2) Q,
    ⟨s.fuel, φ1 ++ [some D], _, S.new_cell hD (c := .lst []) ⟨[], upd_same, .nil⟩, S.ext_cell hD, .inl ?_, h⟩, ?_⟩
  · rw [List.getElem?_append_right hn, S.len, Nat.sub_self]; rfl
  rintro i k H ⟨φ, m, S, x, al, h⟩
  cases k with
  | zero => exact h.elim
  | succ k =>
    have fd := feed φ m H (x.mono (Nat.zero_le _)) S i
    unfold fldN at h
    cases hs : s.at m i with
    | none => rw [hs] at h; exact h.elim
    | some o =>
      rw [hs] at h fd
      cases o with
      | none => exact .inl ⟨fd, fin_ok al S x hn h⟩
      | some w =>
        obtain ⟨go, yl⟩ := fd
        refine .inr ⟨go, ?_⟩
        have h : HG K γ Wx σ (RW K) b φ1 H1 (((cS2 t own fc fi1 t1 own1 fc1 fe m1.length ρ w m).bind fun _ m' => fldN (cS2 t own fc fi1 t1 own1 fc1 fe m1.length ρ) s k (i + 1) m').bind fun _ m2 => finC m1.length m2) Q := h
        cases hq : cS2 t own fc fi1 t1 own1 fc1 fe m1.length ρ w m with
        | bad => rw [hq] at h; exact h.elim
        | exc c m' => exact (cS2_noexc hq).elim
        | ok u m' =>
          rw [hq] at h
          refine ⟨fun H' => ∃ φ', SR K φ' m' H' ∧ Ext b φ1 H1 φ' H' ∧ Al φ' m1.length D, fun H' ⟨φ', S', x', al'⟩ => ⟨k, Nat.lt_succ_self _, φ', m', S', x', al', h⟩, fun xv H' hy => ?_⟩
          obtain ⟨gr, S', ir⟩ := yl xv H' hy
          unfold cS2 at hq
          split at hq
          · rename_i ρ' ht'
            obtain ⟨kk, m2, h1, h2⟩ := R.bind_ok (R.nox_ok hq)
            have xx := x.trans (gr b)
            refine tg_step ir hp ht' ((re.mono xx).wipe own) fun σ2 re2 hw => ⟨?_, ?_⟩
            · rw [hw own ht, wipe_wipe]
            · refine ⟨φ, m, ρ', S', re2, ?_⟩
              rw [h1]
              intro φ2 H2 bb x2 S2 e
              subst e
              cases kk with
              | false =>
                cases h2
                exact iteF ⟨φ2, S2, xx.trans x2, al.mono x2⟩
              | true =>
                obtain ⟨s1, m3, h3, h4⟩ := R.bind_ok h2
                refine iteT ⟨φ2, m2, ρ', S2, re2.mono x2, ?_⟩
                rw [h3]
                intro φ3 H3 J1 x3 S3 feed1
                rw [fldS_N] at h4
                have re3 := (re2.mono x2).mono x3
                refine ⟨fun j k H => ∃ φ m, SR K φ m H ∧ Ext 0 φ3 H3 φ H ∧ Ext b φ1 H1 φ H ∧ Al φ m1.length D ∧ fldN (cS1 t1 own1 fc1 fe m1.length ρ') s1 k j m = .ok () m', ⟨s1.fuel, φ3, m3, S3, .refl, (xx.trans x2).trans x3, (al.mono x2).mono x3, h4⟩, ?_⟩
                rintro j k H ⟨φ, m, S, x, xo, al, h⟩
                cases k with
                | zero => cases h
                | succ k =>
                  have fd := feed1 φ m H x S j
                  unfold fldN at h
                  cases hs : s1.at m j with
                  | none => rw [hs] at h; cases h
                  | some o =>
                    rw [hs] at h fd
                    cases o with
                    | none =>
                      cases h
                      exact .inl ⟨fd, φ, S, xo, al⟩
                    | some w =>
                      obtain ⟨go, yl⟩ := fd
                      refine .inr ⟨go, ?_⟩
                      obtain ⟨_, m4, hq, h⟩ := R.bind_ok h
                      refine ⟨fun H' => ∃ φ', SR K φ' m4 H' ∧ Ext 0 φ3 H3 φ' H' ∧ Ext b φ1 H1 φ' H' ∧ Al φ' m1.length D, fun H' ⟨φ', S', x', xo', al'⟩ => ⟨k, Nat.lt_succ_self _, φ', m4, S', x', xo', al', h⟩, fun xv H' hy => ?_⟩
                      obtain ⟨gr, S', ir⟩ := yl xv H' hy
                      unfold cS1 at hq
                      split at hq
                      · rename_i ρ2 ht2
                        obtain ⟨kk, m5, h1, h2⟩ := R.bind_ok hq
                        have xx3 := x.trans (gr 0)
                        have xx1 := xo.trans (gr b)
                        refine tg_step ir hp1 ht2 ((re3.mono xx3).wipe own1) fun σ3 re3' hw => ⟨?_, ?_⟩
                        · rw [hw own1 ht1, wipe_wipe]
                        · refine ⟨φ, m, ρ2, S', re3', ?_⟩
                          rw [h1]
                          intro φ5 H5 bb x5 S5 e
                          subst e
                          cases kk with
                          | false =>
                            cases h2
                            exact iteF ⟨φ5, S5, xx3.trans (x5.mono (Nat.zero_le _)), xx1.trans x5, al.mono x5⟩
                          | true =>
                            obtain ⟨v, m6, h6, h7⟩ := R.bind_ok h2
                            refine iteT ⟨φ5, m5, ρ2, S5, re3'.mono x5, ?_⟩
                            rw [h6]
                            intro φ6 H6 y x6 S6 ry
                            have al6 := (al.mono x5).mono x6
                            obtain ⟨acc, q1, q2, q3, q4⟩ := push_ok al6 S6 h7 ry ((xx1.trans x5).trans x6) hn
                            have hD6 : φ6[m1.length]? = some (some D) := by
                              rcases al6 with z | z
                              · exact z
                              · unfold pushC at h7
                                split at h7
                                · rename_i ws hm
                                  exact (Al.at (.inr z) S6 hm).1
                                · cases h7
                            exact ⟨acc, q1, q2, φ6, q3, (((xx3.trans (x5.mono (Nat.zero_le _))).trans (x6.mono (Nat.zero_le _))).trans (S6.ext_write (Nat.zero_le _) hD6)), q4, al6⟩
                      · cases hq
          · cases hq
end
end PV
namespace PV
open PySem PySem.Spec PyProof.Rows L2

/-! ### sources -/
section
variable {K : PySem.W.Frag} {φ0 : List (Option Addr)} {H0 : Hp}
theorem feed_list {a : Addr} {vs : List V} {ds : List PyData} (hs : SqL K (hide φ0 H0) a vs) (hd : DvAll K (hide φ0 H0) vs ds) : Feed false K φ0 H0 (.d ds) (Itl K a) := by
  intro φ m H x S i
  have hs' : SqL K H a vs := Same.seq (fun a o h => hide_same a o (x.hid a o h)) hs
  show match (some (ds[i]?.map W.d) : Option (Option W)) with
    | some (some w) => (Itl K a).go i H ∧ ∀ x H', (Itl K a).yld i H x H' → Grow φ H H' ∧ SR K φ m H' ∧ itR false K φ H' w x
    | some none => (Itl K a).stop i H
    | none => True
  cases e : ds[i]? with
  | none =>
    have := List.getElem?_eq_none_iff.mp e
    exact ⟨vs, hs', by rw [hd.length]; exact this⟩
  | some d =>
    obtain ⟨v, hv, r⟩ := hd.get e
    refine ⟨⟨vs, v, hs', hv⟩, fun y H' ⟨e1, e2⟩ => ?_⟩
    subst e1
    have := e2 vs hs'
    rw [hv] at this
    cases this
    exact ⟨.refl, S, Dv.mono x.hid _ _ r⟩
theorem feed_tup {a : Addr} {vs : List V} {ds : List PyData} (hs : SqX K (hide φ0 H0) a vs) (hd : DvAll K (hide φ0 H0) vs ds) : Feed false K φ0 H0 (.d ds) (Itt K a) := by
  intro φ m H x S i
  have hs' : SqT K H a vs := Same.seqT (fun a o h => hide_same a o (x.hid a o h)) hs.sq
  show match (some (ds[i]?.map W.d) : Option (Option W)) with
    | some (some w) => (Itt K a).go i H ∧ ∀ x H', (Itt K a).yld i H x H' → Grow φ H H' ∧ SR K φ m H' ∧ itR false K φ H' w x
    | some none => (Itt K a).stop i H
    | none => True
  cases e : ds[i]? with
  | none =>
    have := List.getElem?_eq_none_iff.mp e
    exact ⟨vs, hs', by rw [hd.length]; exact this⟩
  | some d =>
    obtain ⟨v, hv, r⟩ := hd.get e
    refine ⟨⟨vs, v, hs', hv⟩, fun y H' ⟨e1, e2⟩ => ?_⟩
    subst e1
    have := e2 vs hs'
    rw [hv] at this
    cases this
    exact ⟨.refl, S, Dv.mono x.hid _ _ r⟩
theorem feed_cell {n : Nat} {a : Addr} (ha : φ0[n]? = some (some a)) : Feed false K φ0 H0 (.l n) (Itl K a) := by
  intro φ m H x S i
  have al : Al φ n a := Al.mono (.inl ha) x
  cases hm : m[n]? with
  | none => simp only [Src.at, hm]
  | some c =>
    cases c with
    | dead => simp only [Src.at, hm]
    | lst ws =>
      obtain ⟨_, vs, hv, rs⟩ := al.at S hm
      have hs' : SqL K H a vs := .inl (.inl hv)
      simp only [Src.at, hm]
      cases e : ws[i]? with
      | none =>
        have := List.getElem?_eq_none_iff.mp e
        exact ⟨vs, hs', by rw [← rs.length]; exact this⟩
      | some w =>
        obtain ⟨v, hv2, r⟩ := rs.get e
        refine ⟨⟨vs, v, hs', hv2⟩, fun y H' ⟨e1, e2⟩ => ?_⟩
        subst e1
        have := e2 vs hs'
        rw [hv2] at this
        cases this
        exact ⟨.refl, S, r⟩
theorem feed_range {i0 : Int} {ds : List PyData} (e : rngD i0 = some ds) : Feed false K φ0 H0 (.d ds) (Itr 0 i0.toNat) := by
  intro φ m H x S i
  obtain ⟨h0, h1, hd⟩ := rngD_ok (K := K) (G := hide φ H) e
  have hl := hd.length
  rw [rgV_0, List.length_map, List.length_range] at hl
  show match (some (ds[i]?.map W.d) : Option (Option W)) with
    | some (some w) => (Itr 0 i0.toNat).go i H ∧ ∀ x H', (Itr 0 i0.toNat).yld i H x H' → Grow φ H H' ∧ SR K φ m H' ∧ itR false K φ H' w x
    | some none => (Itr 0 i0.toNat).stop i H
    | none => True
  cases e : ds[i]? with
  | none =>
    have := List.getElem?_eq_none_iff.mp e
    show i0.toNat ≤ i
    omega
  | some d =>
    obtain ⟨v, hv, r⟩ := hd.get e
    have hi := (List.getElem?_eq_some_iff.mp e).1
    have hv' : v = .int (i : Nat) := by
      rw [rgV_0, List.getElem?_map, List.getElem?_range (by omega)] at hv
      exact (Option.some.inj hv).symm
    subst hv'
    refine ⟨(show i < i0.toNat by omega), fun y H' ⟨e1, e2⟩ => ?_⟩
    subst e1 e2
    rw [Int.zero_add]
    exact ⟨.refl, S, r⟩
end
section
variable {X : Cx} {γ : Nat → Addr} {Wx : WX} {b : Nat} {tg e x y : Expr} {f g : Env → List Cell → R W} {np pos : Pos}
theorem pi_exW (he : PE X e (tW X.K γ Wx b f)) : PI X tg e (tI false X.K γ Wx b fun ρ m => (f ρ m).bind fun w m1 => ofO m1 (srcW m1 w)) := by
  refine ⟨fun pins s σ H R I h => ?_⟩
  have h' : tW X.K γ Wx b f σ H fun v H1 => (∃ a xs, v = .ref a ∧ SqL X.K H1 a xs ∧ R (Itl X.K a) H1) ∨ (∃ a xs, v = .ref a ∧ SqT X.K H1 a xs ∧ R (Itt X.K a) H1) := tG.then (f := f) h fun φ m ρ u v1 H1 S re r h => by
    obtain ⟨s, hs, h⟩ := HG.ofO h
    cases u with
    | l n =>
      cases hm : m[n]? with
      | none => simp [srcW, hm] at hs
      | some c =>
        cases c with
        | dead => simp [srcW, hm] at hs
        | lst ws =>
          simp only [srcW, hm] at hs
          cases hs
          obtain ⟨a, vs, rfl, ha, hv, rs⟩ := S.cellAt r hm
          exact .inl ⟨a, vs, rfl, .inl (.inl hv), HG.okI (a := Src.l n) (m := m) h S (feed_cell ha)⟩
    | d d =>
      cases d with
      | list ds =>
        cases hs
        obtain ⟨a, vs, rfl, h1, h2⟩ := (show Dv X.K (hide φ H1) v1 (.list ds) from r).refL
        exact .inl ⟨a, vs, rfl, Same.seq hide_same h1, HG.okI (a := Src.d ds) (m := m) h S (feed_list h1 h2)⟩
      | tuple ds =>
        cases hs
        obtain ⟨a, vs, rfl, h1, h2⟩ := (show Dv X.K (hide φ H1) v1 (.tuple ds) from r).refT
        exact .inr ⟨a, vs, rfl, Same.seqT hide_same h1.sq, HG.okI (a := Src.d ds) (m := m) h S (feed_tup h1 h2)⟩
      | _ => cases hs
  refine thn (he.run pins s σ H _ I h') fun v s1 ⟨x, H1, I1, r1, q1⟩ => ?_
  rcases q1 with ⟨a, xs, e, hq, q⟩ | ⟨a, xs, e, hq, q⟩
  · subst e
    cases r1
    obtain ⟨its, rv, p, hz⟩ := I1.list hq
    refine wpAny_pyIter_list p.isList ?_
    refine ⟨s1.heap.objs.size, [s1.heap.objs.size], _, _, H1, rfl, I1.kept (t' := s1.toks) fun b o e => Heap.get?_push_of_some _ e, turn_list a _, ⟨_, Heap.get?_push_size _ rfl, rfl, rfl⟩, fun b hb => ?_, q⟩
    have e : b = s1.heap.objs.size := by simpa using hb
    subst e
    exact I1.fpOk (Nat.le_refl _) (I1.hok.fresh (Nat.le_refl _))
  · subst e
    cases r1
    obtain ⟨its, rv, p, hz⟩ := I1.tuple hq
    refine wpAny_pyIter_tuple (show s1.heap.IsTuple a its.toArray from p) ?_
    refine ⟨s1.heap.objs.size, [s1.heap.objs.size], _, _, H1, rfl, I1.kept (t' := s1.toks) fun b o e => Heap.get?_push_of_some _ e, turn_tuple a _, ⟨_, Heap.get?_push_size _ rfl, rfl, rfl⟩, fun b hb => ?_, q⟩
    have e : b = s1.heap.objs.size := by simpa using hb
    subst e
    exact I1.fpOk (Nat.le_refl _) (I1.hok.fresh (Nat.le_refl _))
theorem pi_rngW (hg : Gl X "range") (hm : X.mg "range" = none) (hs : isStar x = false) (hx : PE X x (tW X.K γ Wx b f)) :
    PI X tg (.Call (.Name "range" np) [x] [] pos) (tI false X.K γ Wx b fun ρ m => (f ρ m).bind fun w m1 => (intOf m1 w).bind fun i _ => ofO m1 ((rngD i).map .d)) :=
  (pi_range1 hg hm (pa_cons hx pa_nil (star_no x [] X.env hs)) (star_no x [] X.env hs)).wk fun σ H R h => tG.then (f := f) (g := fun ρ (w : W) (m1 : List Cell) => (intOf m1 w).bind fun i _ => ofO m1 ((rngD i).map Src.d)) h fun φ m ρ u v1 H1 S re r h => by
    obtain ⟨i, rfl, h2⟩ := HG.intOf h
    obtain ⟨z, hz, h3⟩ := HG.ofO h2
    obtain ⟨ds, hr, rfl⟩ := Option.map_eq_some_iff.mp hz
    have hb : 0 ≤ i ∧ i ≤ 100000 := by
      unfold rngD at hr
      split at hr
      · assumption
      · cases hr
    exact ⟨i, by rw [(show Dv X.K (hide φ H1) v1 (.int i) from r).eint], by omega, by omega, HG.okI (a := Src.d ds) (m := m) h3 S (feed_range hr)⟩
end

/-! ### comprehensions -/
section
variable {X : Cx} {γ : Nat → Addr} {Wx : WX} {b : Nat}
theorem tg_pg {Y : Cx} (t : Tg) (tgE : Expr) (h : ∀ i, i ∈ t.ins → True) : True := trivial
end
end PV
namespace PV
open PySem PySem.Spec PyProof.Rows L2
/-! ### statements: readings -/
inductive FV where
  | nx (σ : L2.St) | rt (v : V)
def RelF (K : PySem.W.Frag) (φ : List (Option Addr)) (H : Hp) : Fl → FV → Prop
  | .nx ρ, .nx σ => RE K φ H ρ σ
  | .rt w, .rt v => RW K φ H w v
  | _, _ => False
def QF (D : Ends) : FV → Hp → Prop
  | .nx σ, H => D.nx σ H
  | .rt v, H => D.rt v H
abbrev wx (E : XK) : WX := fun c d _ H => E c d H
def tS (K : PySem.W.Frag) (γ : Nat → Addr) (E : XK) (b : Nat) (f : Env → List Cell → R Fl) : TS := fun D σ H => ∃ φ m ρ, SR K φ m H ∧ RE K φ H ρ σ ∧ HG K γ (wx E) [] (RelF K) b φ H (f ρ m) (QF D)
section
variable {K : PySem.W.Frag} {γ : Nat → Addr} {E : XK} {b : Nat} {σ σ' : L2.St} {H : Hp} {φ : List (Option Addr)} {m : List Cell} {D : Ends}
theorem HG.sg {α β : Type} {Rel : List (Option Addr) → Hp → α → β → Prop} {r : R α} {Q : β → Hp → Prop} (h : HG K γ (wx E) σ Rel b φ H r Q) : HG K γ (wx E) σ' Rel b φ H r Q := by
  cases r with
  | ok a m => exact h
  | exc c m => exact h
  | bad => exact h
theorem HG.nx {ρ : Env} (h : HG K γ (wx E) σ (RelF K) b φ H (.ok (.nx ρ) m) (QF D)) (S : SR K φ m H) (re : RE K φ H ρ σ') : D.nx σ' H := HG.okI (v := FV.nx σ') h S re
theorem HG.rt {w : W} {v : V} (h : HG K γ (wx E) σ (RelF K) b φ H (.ok (.rt w) m) (QF D)) (S : SR K φ m H) (r : RW K φ H w v) : D.rt v H := HG.okI (v := FV.rt v) h S r
/-- the first of two, at a statement -/
theorem tS.then {α β : Type} {Rel : List (Option Addr) → Hp → α → β → Prop} {f : Env → List Cell → R α} {g : Env → α → List Cell → R Fl} {Q : β → Hp → Prop} (h : tS K γ E b (fun ρ m => (f ρ m).bind (g ρ)) D σ H)
    (k : ∀ φ m ρ a v H', SR K φ m H' → RE K φ H' ρ σ → Rel φ H' a v → HG K γ (wx E) σ (RelF K) b φ H' (g ρ a m) (QF D) → Q v H') : tG K γ (wx E) b Rel f σ H Q := by
  obtain ⟨φ, m, ρ, S, re, h⟩ := h
  exact ⟨φ, m, ρ, S, re, (HG.bind (Rel := Rel) (HG.sg (σ' := σ) h)).mono fun v H' ⟨φ', m', a, x, s, r, q⟩ => k φ' m' ρ a v H' s (re.mono x) r q⟩
theorem ext_nset {c d : W} : True := trivial
end
section
variable {X : Cx} {γ : Nat → Addr} {E : XK} {b : Nat} {f g k : Env → List Cell → R W} {st : Stmt} {rest body : List Stmt} {x y z e : Expr} {pos : Pos} {i j l : Nat} {fS gS : Env → List Cell → R Fl}
theorem pss_nilW : PSs X [] (tS X.K γ E b fun ρ m => .ok (.nx ρ) m) := pss_nil.wk fun D σ H ⟨φ, m, ρ, S, re, h⟩ => h.nx S re
def seqF (g : Env → List Cell → R Fl) : Fl → List Cell → R Fl
  | .nx ρ', m1 => g ρ' m1
  | .rt w, m1 => .ok (.rt w) m1
theorem pss_consW (h1 : PS X st (tS X.K γ E b fS)) (h2 : PSs X rest (tS X.K γ E b gS)) : PSs X (st :: rest) (tS X.K γ E b fun ρ m => (fS ρ m).bind (seqF gS)) :=
  (pss_cons h1 h2).wk fun D σ H ⟨φ, m, ρ, S, re, h⟩ => ⟨φ, m, ρ, S, re, (HG.bind (Rel := RelF X.K) h).mono fun v H1 ⟨φ1, m1, fl, x1, S1, r1, h1⟩ => by
    cases fl with
    | nx ρ' => cases v with
      | nx σ' => exact ⟨φ1, m1, ρ', S1, r1, h1⟩
      | rt v => exact r1.elim
    | rt w => cases v with
      | nx σ' => exact r1.elim
      | rt v => exact h1.rt S1 r1⟩
/-- a name is set -/
theorem ps_asgW {te : TE} (hps : PS X st (tAsg te (gName i))) (hte : ∀ σ H Q, tW X.K γ (wx E) b f σ H Q → te σ H Q) : PS X st (tS X.K γ E b fun ρ m => (f ρ m).bind fun w m1 => .ok (.nx (ρ.set i (some w))) m1) :=
  hps.wk fun D σ H h => hte σ H _ (tS.then (Rel := RW X.K) (f := f) h fun φ m ρ w v H1 S re r h => h.nx S (re.set r))
def parF (i j : Nat) (f g : Env → List Cell → R W) (ρ : Env) (m : List Cell) : R Fl := (f ρ m).bind fun u m1 => (g ρ m1).bind fun v m2 => .ok (.nx ((ρ.set i (some u)).set j (some v))) m2
theorem parF_A {D : Ends} {σ : L2.St} {H : Hp} (h : tS X.K γ E b (parF i j f g) D σ H) : tCons (tW X.K γ (wx E) b f) (tCons (tW X.K γ (wx E) b g) tNil) σ H fun vs H1 => ∃ v w, vs = [v, w] ∧ (∀ p, H1 p = none → D.nx ((σ.set i (some v)).set j (some w)) (upd H1 p (.tup [v, w]))) ∧ D.nx ((σ.set i (some v)).set j (some w)) H1 :=
  tS.then (Rel := RW X.K) (f := f) h fun φ m ρ u v H1 S re r h => ⟨φ, m, ρ, S, re, (HG.bind (Rel := RW X.K) h).mono fun v2 H2 ⟨φ2, m2, w, x2, S2, r2, h⟩ =>
    ⟨v, v2, rfl, fun p hp => by
      have x3 : Ext b φ2 H2 φ2 (upd H2 p (.tup [v, v2])) := S2.ext hp
      exact HG.nx (h.shift x3) (S2.data hp) ((((re.mono x2).mono x3).set ((r.mono x2).mono x3)).set (r2.mono x3)), h.nx S2 (((re.mono x2).set (r.mono x2)).set r2)⟩⟩
theorem ps_parW {st} {ta : TA} (hps : PS X st (tPar i j ta)) (hta : ∀ σ H Q, tCons (tW X.K γ (wx E) b f) (tCons (tW X.K γ (wx E) b g) tNil) σ H Q → ta σ H Q) : PS X st (tS X.K γ E b (parF i j f g)) :=
  hps.wk fun D σ H h => hta σ H _ (by
    have := parF_A h
    obtain ⟨φ, m, ρ, S, re, h⟩ := this
    exact ⟨φ, m, ρ, S, re, h.mono fun v H1 ⟨φ1, m1, ρ1, S1, re1, h1⟩ => ⟨φ1, m1, ρ1, S1, re1, h1.mono fun v2 H2 ⟨a, c, e1, _, q⟩ => ⟨a, c, e1, q⟩⟩⟩)
theorem ps_parUW {st} (hps : PS X st (tAsg (tTup (tCons (tW X.K γ (wx E) b f) (tCons (tW X.K γ (wx E) b g) tNil))) (gTup X.K 2 (gCons (gName i) (gCons (gName j) gNil))))) : PS X st (tS X.K γ E b (parF i j f g)) :=
  hps.wk fun D σ H h => by
    have := parF_A h
    obtain ⟨φ, m, ρ, S, re, h⟩ := this
    refine ⟨φ, m, ρ, S, re, h.mono fun v H1 ⟨φ1, m1, ρ1, S1, re1, h1⟩ => ⟨φ1, m1, ρ1, S1, re1, h1.mono fun v2 H2 ⟨a, c, e1, q, _⟩ => ?_⟩⟩
    cases e1
    exact ⟨by show 2 ≤ sizeLine; rw [sizeLine_eq]; omega, fun p hp => ⟨p, [v, v2], rfl, .inl (.inl upd_same), rfl, v, [v2], rfl, v2, [], rfl, rfl, q p hp⟩⟩
def par3F (i j l : Nat) (f g k : Env → List Cell → R W) (ρ : Env) (m : List Cell) : R Fl := (f ρ m).bind fun u m1 => (g ρ m1).bind fun v m2 => (k ρ m2).bind fun w m3 => .ok (.nx (((ρ.set i (some u)).set j (some v)).set l (some w))) m3
theorem par3F_A {D : Ends} {σ : L2.St} {H : Hp} (h : tS X.K γ E b (par3F i j l f g k) D σ H) : tCons (tW X.K γ (wx E) b f) (tCons (tW X.K γ (wx E) b g) (tCons (tW X.K γ (wx E) b k) tNil)) σ H fun vs H1 => ∃ u v w, vs = [u, v, w] ∧ (∀ p, H1 p = none → D.nx (((σ.set i (some u)).set j (some v)).set l (some w)) (upd H1 p (.tup [u, v, w]))) ∧ D.nx (((σ.set i (some u)).set j (some v)).set l (some w)) H1 :=
  tS.then (Rel := RW X.K) (f := f) h fun φ m ρ u v H1 S re r h => ⟨φ, m, ρ, S, re, (HG.bind (Rel := RW X.K) h).mono fun v2 H2 ⟨φ2, m2, w, x2, S2, r2, h⟩ => ⟨φ2, m2, ρ, S2, re.mono x2, (HG.bind (Rel := RW X.K) h).mono fun v3 H3 ⟨φ3, m3, w3, x3, S3, r3, h⟩ =>
    ⟨v, v2, v3, rfl, fun p hp => by
      have x4 : Ext b φ3 H3 φ3 (upd H3 p (.tup [v, v2, v3])) := S3.ext hp
      exact HG.nx (h.shift x4) (S3.data hp) ((((((re.mono x2).mono x3).mono x4).set (((r.mono x2).mono x3).mono x4)).set ((r2.mono x3).mono x4)).set (r3.mono x4)), h.nx S3 (((((re.mono x2).mono x3).set ((r.mono x2).mono x3)).set (r2.mono x3)).set r3)⟩⟩⟩
theorem ps_par3W {st} {ta : TA} (hps : PS X st (tPar3 i j l ta)) (hta : ∀ σ H Q, tCons (tW X.K γ (wx E) b f) (tCons (tW X.K γ (wx E) b g) (tCons (tW X.K γ (wx E) b k) tNil)) σ H Q → ta σ H Q) : PS X st (tS X.K γ E b (par3F i j l f g k)) :=
  hps.wk fun D σ H h => hta σ H _ (by
    have := par3F_A h
    obtain ⟨φ, m, ρ, S, re, h⟩ := this
    exact ⟨φ, m, ρ, S, re, h.mono fun v H1 ⟨φ1, m1, ρ1, S1, re1, h1⟩ => ⟨φ1, m1, ρ1, S1, re1, h1.mono fun v2 H2 ⟨φ2, m2, ρ2, S2, re2, h2⟩ => ⟨φ2, m2, ρ2, S2, re2, h2.mono fun v3 H3 ⟨a, c, d, e1, _, q⟩ => ⟨a, c, d, e1, q⟩⟩⟩⟩)
theorem ps_par3UW {st} (hps : PS X st (tAsg (tTup (tCons (tW X.K γ (wx E) b f) (tCons (tW X.K γ (wx E) b g) (tCons (tW X.K γ (wx E) b k) tNil)))) (gTup X.K 3 (gCons (gName i) (gCons (gName j) (gCons (gName l) gNil)))))) : PS X st (tS X.K γ E b (par3F i j l f g k)) :=
  hps.wk fun D σ H h => by
    have := par3F_A h
    obtain ⟨φ, m, ρ, S, re, h⟩ := this
    refine ⟨φ, m, ρ, S, re, h.mono fun v H1 ⟨φ1, m1, ρ1, S1, re1, h1⟩ => ⟨φ1, m1, ρ1, S1, re1, h1.mono fun v2 H2 ⟨φ2, m2, ρ2, S2, re2, h2⟩ => ⟨φ2, m2, ρ2, S2, re2, h2.mono fun v3 H3 ⟨a, c, d, e1, q, _⟩ => ?_⟩⟩⟩
    cases e1
    exact ⟨by show 3 ≤ sizeLine; rw [sizeLine_eq]; omega, fun p hp => ⟨p, [v, v2, v3], rfl, .inl (.inl upd_same), rfl, v, [v2, v3], rfl, v2, [v3], rfl, v3, [], rfl, rfl, q p hp⟩⟩
/-- a cell is written -/
theorem putL_ok {K : PySem.W.Frag} {σ : L2.St} {φ : List (Option Addr)} {H : Hp} {m : List Cell} {n : Nat} {v : V} {fw : List W → Option (List W)} {gg : List Cell → R Fl} {D : Ends} (S : SR K φ m H) (r : RW K φ H (.l n) v)
    (h : HG K γ (wx E) σ (RelF K) b φ H ((putL b n m fw).bind fun _ m4 => gg m4) (QF D)) :
    ∃ a vs ws ws', v = .ref a ∧ H a = some (.lst vs) ∧ RWs K φ H ws vs ∧ fw ws = some ws' ∧ ∀ vs', (Ext 0 φ H φ (upd H a (.lst vs')) → RWs K φ (upd H a (.lst vs')) ws' vs') → HG K γ (wx E) σ (RelF K) b φ (upd H a (.lst vs')) (gg (m.set n (.lst ws'))) (QF D) ∧ SR K φ (m.set n (.lst ws')) (upd H a (.lst vs')) ∧ Ext b φ H φ (upd H a (.lst vs')) := by
  unfold putL at h
  split at h
  · rename_i hb
    cases hm : m[n]? with
    | none => rw [hm] at h; exact h.elim
    | some c =>
      rw [hm] at h
      cases c with
      | dead => exact h.elim
      | lst ws =>
        obtain ⟨a, vs, rfl, ha, hv, rs⟩ := S.cellAt r hm
        cases hf : fw ws with
        | none => simp only [hf] at h; exact h.elim
        | some ws' =>
          simp only [hf] at h
          refine ⟨a, vs, ws, ws', rfl, hv, rs, hf, fun vs' hr => ?_⟩
          have x1 : Ext b φ H φ (upd H a (.lst vs')) := S.ext_write hb ha
          exact ⟨HG.shift h x1, S.write ha ⟨vs', upd_same, hr (x1.mono (Nat.zero_le _))⟩, x1⟩
  · exact h.elim
def subF (b : Nat) (f g k : Env → List Cell → R W) (ρ : Env) (m : List Cell) : R Fl := (k ρ m).bind fun w m1 => (f ρ m1).bind fun u m2 => (g ρ m2).bind fun v m3 => subX b ρ m3 w u v
def isSlice : Expr → Bool
  | .Slice .. => true
  | _ => false
theorem plainIx_of (y : Expr) (h : isSlice y = false) : PlainIx y := by
  cases y <;> first | (intro _ _; rfl) | cases h
theorem assign_sub (x y : Expr) (tp : Pos) (env : PySem.Env) (h : isSlice y = false) (v : Value) : assign (.Subscript x y tp) env v = (do
      let ov ← holding [v] (eval x env)
      let iv ← holding [v, ov] (eval y env)
      standAt tp
      holding [v, ov, iv] (setItem ov iv v)
      release [v, ov, iv] []) := by
  cases y <;> first | rfl | cases h
theorem ps_subW {tp : Pos} (ho : PE X x (tW X.K γ (wx E) b f)) (hi : PE X y (tW X.K γ (wx E) b g)) (he : PE X z (tW X.K γ (wx E) b k)) (hsl : isSlice y = false) (hs : swapsWithSole [.Subscript x y tp] z pos.line X.env = pure false) (hw : swappedStores [.Subscript x y tp] z X.env = pure none) :
    PS X (.Assign [.Subscript x y tp] z pos) (tS X.K γ E b (subF b f g k)) :=
  (ps_asg he (pg_sub ho hi set_list (assign_sub x y tp X.env hsl)) hs hw rfl).wk fun D σ H h => tS.then (Rel := RW X.K) (f := k) (g := fun ρ w m1 => (f ρ m1).bind fun u m2 => (g ρ m2).bind fun v m3 => subX b ρ m3 w u v) h fun φ m ρ w v H1 S re r h => ⟨φ, m, ρ, S, re, (HG.bind (Rel := RW X.K) h).mono fun v2 H2 ⟨φ2, m2, u, x2, S2, r2, h⟩ => ⟨φ2, m2, ρ, S2, re.mono x2, (HG.bind (Rel := RW X.K) h).mono fun v3 H3 ⟨φ3, m3, iw, x3, S3, r3, h⟩ => by
      cases u with
      | d _ => exact h.elim
      | l n => cases iw with
        | l _ => exact h.elim
        | d dx => cases dx with
          | int i =>
            obtain ⟨a, vs, ws, ws', e1, hv, rs, hf, q⟩ := putL_ok S3 (r2.mono x3) (show HG X.K γ (wx E) σ (RelF X.K) b φ3 H3 ((putL b n m3 (setW i w)).bind fun _ m4 => .ok (.nx ρ) m4) (QF D) from h)
            obtain ⟨jj, hj, e2⟩ := Option.map_eq_some_iff.mp hf
            subst e2
            have hl := rs.length
            obtain ⟨q1, q2, q3⟩ := q (vs.set jj v) fun x4 => (rs.mono x4).set (((r.mono x2).mono x3).mono x4) jj
            exact ⟨a, vs, i, jj, e1, (show Dv X.K (hide φ3 H3) v3 (.int i) from r3).eint, hv, by rw [← hl]; exact hj, q1.nx q2 (((re.mono x2).mono x3).mono q3)⟩
          | _ => exact h.elim⟩⟩
def appF (b : Nat) (i : Nat) (k : Env → List Cell → R W) (ρ : Env) (m : List Cell) : R Fl := (getV ρ i m).bind fun u _ => appX b ρ m (k ρ m) u
theorem ps_appW {xn : Str} {np apos cpos : Pos} (hline : (apos.endLine == cpos.line) = true) (hs : isStar z = false) (ho : PE X (.Name xn np) (tW X.K γ (wx E) b fun ρ m => getV ρ i m)) (he : PE X z (tW X.K γ (wx E) b k)) :
    PS X (.Expr (.Call (.Attribute (.Name xn np) "append" apos) [z] [] cpos) pos) (tS X.K γ E b (appF b i k)) := by
  have hst := star_no z [] X.env hs
  have ha : PA X [z] (tCons (tW X.K γ (wx E) b k) tNil) := pa_cons he pa_nil hst
  refine (ps_expr (pe_bm PySem.F.plainAttrs_list PySem.F.slot_list_append PySem.F.type_list_append mt_append ho ha rfl (by rw [hst]; rfl) hline hst rfl) rfl).wk fun D σ H ⟨φ, m, ρ, S, re, h⟩ => ?_
  have h0 : HG X.K γ (wx E) σ (RelF X.K) b φ H ((getV ρ i m).bind fun u _ => appX b ρ m (k ρ m) u) (QF D) := HG.sg h
  cases hg : ρ[i]? with
  | none => simp [getV, hg, R.bind] at h0; exact h0.elim
  | some o => cases o with
    | none => simp [getV, hg, R.bind] at h0; exact h0.elim
    | some u =>
      have h1 : HG X.K γ (wx E) σ (RelF X.K) b φ H (appX b ρ m (k ρ m) u) (QF D) := by
        have e : getV ρ i m = .ok u m := by unfold getV; rw [hg]
        rw [e] at h0
        exact h0
      cases u with
      | d x => exact h1.elim
      | l n =>
        by_cases hq : isSeqW m (.l n) = true
        · have h1 : HG X.K γ (wx E) σ (RelF X.K) b φ H ((k ρ m).bind fun w m1 => (putL b n m1 (pushW w)).bind fun _ m2 => .ok (.nx ρ) m2) (QF D) := by
            unfold appX at h1
            dsimp only at h1
            rw [if_pos hq] at h1
            exact h1
          obtain ⟨v, e1, r⟩ := re.2 i _ hg
          refine ⟨φ, m, ρ, S, re, ?_⟩
          have e : getV ρ i m = .ok (.l n) m := by unfold getV; rw [hg]
          show HG X.K γ (wx E) σ (RW X.K) b φ H (getV ρ i m) _
          rw [e]
          intro φ1 H1 v1 x1 S1 r1
          refine ⟨?_, ⟨φ1, m, ρ, S1, re.mono x1, (HG.bind (Rel := RW X.K) (HG.shift h1 x1)).mono fun v2 H2 ⟨φ2, m2, w, x2, S2, r2, h⟩ => ?_⟩⟩
          · cases hm : m[n]? with
            | none => simp [isSeqW, hm] at hq
            | some c => cases c with
              | dead => simp [isSeqW, hm] at hq
              | lst ws =>
                obtain ⟨a, vs, rfl, ha, hv, rs⟩ := S1.cellAt r1 hm
                exact .inl ⟨rfl, vs, .inl (.inl hv)⟩
          · obtain ⟨a, vs, ws, ws', e1, hv, rs, hf, q⟩ := putL_ok S2 (r1.mono x2) h
            unfold pushW at hf
            split at hf
            · rename_i hl
              cases hf
              have l1 := rs.length
              have l2 := lim_size
              obtain ⟨q1, q2, q3⟩ := q (vs ++ [v2]) fun x4 => (rs.mono x4).append (.cons (r2.mono x4) .nil)
              exact ⟨a, vs, v2, e1, rfl, hv, by omega, q1.nx q2 (((re.mono x1).mono x2).mono q3)⟩
            · cases hf
        · unfold appX at h1
          dsimp only at h1
          rw [if_neg hq] at h1
          exact h1.elim
end
end PV
namespace PV
open PySem PySem.Spec PyProof.Rows L2
section
variable {X : Cx} {γ : Nat → Addr} {E : XK} {b : Nat} {f g k : Env → List Cell → R W} {st : Stmt} {rest body : List Stmt} {x y z e : Expr} {pos : Pos} {i j l : Nat} {fS gS : Env → List Cell → R Fl}
theorem ps_retW (he : PE X e (tW X.K γ (wx E) b f)) : PS X (.Return (some e) pos) (tS X.K γ E b fun ρ m => (f ρ m).bind fun w m1 => .ok (.rt w) m1) :=
  (ps_ret he).wk fun D σ H h => tS.then (Rel := RW X.K) (f := f) h fun φ m ρ w v H1 S re r h => h.rt S r
theorem ps_retNW : PS X (.Return none pos) (tS X.K γ E b fun _ m => .ok (.rt (.d .none)) m) := ps_retN.wk fun D σ H ⟨φ, m, ρ, S, re, h⟩ => h.rt S (w := .d .none) .non
theorem ps_passW : PS X (.Pass pos) (tS X.K γ E b fun ρ m => .ok (.nx ρ) m) := ps_pass.wk fun D σ H ⟨φ, m, ρ, S, re, h⟩ => h.nx S re
theorem ps_neverW : PS X st (tS X.K γ E b fun _ _ => .bad) := ps_never.wk fun D σ H ⟨φ, m, ρ, S, re, h⟩ => h
theorem ps_exprW (hs : swapsWith e none pos.line X.env = pure false) (he : PE X e (tW X.K γ (wx E) b f)) : PS X (.Expr e pos) (tS X.K γ E b fun ρ m => (f ρ m).bind fun _ m1 => .ok (.nx ρ) m1) :=
  (ps_expr he hs).wk fun D σ H h => tS.then (Rel := RW X.K) (f := f) (g := fun ρ _ m1 => .ok (.nx ρ) m1) h fun φ m ρ w v H1 S re r h => HG.nx h S re
def iteFl (f : Env → List Cell → R W) (fS gS : Env → List Cell → R Fl) (ρ : Env) (m : List Cell) : R Fl := (f ρ m).bind fun u m1 => (boolOf m1 u).bind fun c _ => if c then fS ρ m1 else gS ρ m1
theorem ps_ifW {p q : List Stmt} (hc : PT X x (tT X.K γ (wx E) b f)) (ha : PSs X p (tS X.K γ E b fS)) (hb : PSs X q (tS X.K γ E b gS)) : PS X (.If x p q pos) (tS X.K γ E b (iteFl f fS gS)) :=
  (ps_if hc ha hb).wk fun D σ H ⟨φ, m, ρ, S, re, h⟩ => tst_then (f := f) (F := fun ρ c m1 => if c then fS ρ m1 else gS ρ m1) (Rel := RelF X.K) (Q' := QF D) ⟨φ, m, ρ, S, re, HG.sg (σ' := σ) h⟩ fun φ m ρ c H' S re h => by
    cases c with
    | true => exact iteT ⟨φ, m, ρ, S, re, HG.sg h⟩
    | false => exact iteF ⟨φ, m, ρ, S, re, HG.sg h⟩
def augF (i : Nat) (k : Env → List Cell → R W) (ρ : Env) (m : List Cell) : R Fl := (getV ρ i m).bind fun u _ => (intOf m u).bind fun i0 _ => (k ρ m).bind fun v m1 => (intOf m1 v).bind fun j _ => .ok (.nx (ρ.set i (some (.d (.int (i0 + j)))))) m1
theorem ps_augW {xn : Str} {p' : Pos} (hN : X.N.Nodup) (hi : X.N[i]? = some xn) (hx : Loc X.env.scope xn) (hf : X.fn xn = true ∨ X.env.scope.names.lookup xn = some .local) (he : PE X z (tW X.K γ (wx E) b k)) :
    PS X (.AugAssign (.Name xn p') .Add z pos) (tS X.K γ E b (augF i k)) :=
  (ps_aug hN hi hx he ip_add hf).wk fun D σ H ⟨φ, m, ρ, S, re, h⟩ => by
    have h0 : HG X.K γ (wx E) σ (RelF X.K) b φ H ((getV ρ i m).bind fun u _ => (intOf m u).bind fun i0 _ => (k ρ m).bind fun v m1 => (intOf m1 v).bind fun j _ => .ok (.nx (ρ.set i (some (.d (.int (i0 + j)))))) m1) (QF D) := HG.sg h
    cases hg : ρ[i]? with
    | none => simp [getV, hg, R.bind] at h0; exact h0.elim
    | some o => cases o with
      | none => simp [getV, hg, R.bind] at h0; exact h0.elim
      | some u =>
        have e : getV ρ i m = .ok u m := by unfold getV; rw [hg]
        rw [e] at h0
        have h0 : HG X.K γ (wx E) σ (RelF X.K) b φ H ((intOf m u).bind fun i0 _ => (k ρ m).bind fun v m1 => (intOf m1 v).bind fun j _ => .ok (.nx (ρ.set i (some (.d (.int (i0 + j)))))) m1) (QF D) := h0
        obtain ⟨i0, rfl, h1⟩ := h0.intOf
        obtain ⟨v, e1, r⟩ := re.2 i _ hg
        have hv := (show Dv X.K (hide φ H) v (.int i0) from r).eint
        subst hv
        refine ⟨_, e1, φ, m, ρ, S, re, (HG.bind (Rel := RW X.K) h1).mono fun v2 H2 ⟨φ2, m2, w, x2, S2, r2, h⟩ => ?_⟩
        obtain ⟨j, rfl, h2⟩ := HG.intOf h
        exact ⟨i0, j, rfl, (show Dv X.K (hide φ2 H2) v2 (.int j) from r2).eint, HG.nx h2 S2 ((re.mono x2).set (w := .d (.int (i0 + j))) (Dv.int _))⟩

/-! ### loops -/
def loopF (fi : Env → List Cell → R Src) (t : Tg) (fS : Env → List Cell → R Fl) (ρ : Env) (m : List Cell) : R Fl := (fi ρ m).bind fun s m1 => forS (fun ρ w m => match tgD t w ρ with
      | some ρ' => fS ρ' m
      | none => .bad) s ρ m1
theorem ps_forW {pr : Bool} {tgE iter : Expr} {fi : Env → List Cell → R Src} {t : Tg} (hp : PassesOwn (model X.prog X.w) X.A X.env X.xe) (hc : X.calm = true) (hpr : pr = true → t.isPair = true) (hi : PI X tgE iter (tI pr X.K γ (wx E) b fi)) (hg : PG X tgE (gOf X.K t)) (hb : PSs X body (tS X.K γ E b fS))
    (hs : ∀ x, foldedSetIterable iter X.env x = pure x) : PS X (.For tgE iter body [] pos) (tS X.K γ E b (loopF fi t fS)) :=
  (ps_for hp hc hi hg hb hs).wk fun D σ H h => tS.then (f := fi) (Rel := Feed pr X.K) h fun φ1 m1 ρ s J H1 S re feed h => by
    rw [forS_N] at h
    refine ⟨fun i k σ H => ∃ φ m ρ, SR X.K φ m H ∧ RE X.K φ H ρ σ ∧ Ext b φ1 H1 φ H ∧ HG X.K γ (wx E) [] (RelF X.K) b φ1 H1 (forN (fun ρ w m => match tgD t w ρ with
      | some ρ' => fS ρ' m
      | none => .bad) s k i ρ m) (QF D), ⟨s.fuel, φ1, m1, ρ, S, re, .refl, HG.sg h⟩, ?_⟩
    rintro i k σ H ⟨φ, m, ρ, S, re, x, h⟩
    cases k with
    | zero => exact h.elim
    | succ k =>
      have fd := feed φ m H (x.mono (Nat.zero_le _)) S i
      unfold forN at h
      cases hs : s.at m i with
      | none => rw [hs] at h; exact h.elim
      | some o =>
        rw [hs] at h fd
        cases o with
        | none => exact .inl ⟨fd, HG.nx (HG.shift (show HG X.K γ (wx E) [] (RelF X.K) b φ1 H1 (.ok (.nx ρ) m) (QF D) from h) x) S re⟩
        | some w =>
          obtain ⟨go, yl⟩ := fd
          refine .inr ⟨go, ?_⟩
          cases ht : tgD t w ρ with
          | none => simp only [ht] at h; exact h.elim
          | some ρ' =>
            simp only [ht] at h
            refine ⟨fun σ' H' => ∃ φ' m' ρ2, SR X.K φ' m' H' ∧ RE X.K φ' H' ρ2 σ' ∧ Ext b φ1 H1 φ' H' ∧ HG X.K γ (wx E) [] (RelF X.K) b φ1 H1 (forN (fun ρ w m => match tgD t w ρ with
              | some ρ' => fS ρ' m
              | none => .bad) s k (i + 1) ρ2 m') (QF D), fun σ' H' ⟨φ', m', ρ2, q⟩ => ⟨k, Nat.lt_succ_self _, φ', m', ρ2, q⟩, fun xv H' hy => ?_⟩
            obtain ⟨gr, S', ir⟩ := yl xv H' hy
            have xx := x.trans (gr b)
            refine tg_step ir hpr ht (re.mono (gr b)) fun σ2 re2 _ => ⟨φ, m, ρ', S', re2, ?_⟩
            cases hq : fS ρ' m with
            | bad => rw [hq] at h; exact h.elim
            | exc c m' => rw [hq] at h; exact HG.shift (r := R.exc (α := Fl) c m') (Rel := RelF X.K) (Q := QF _) h xx
            | ok fl m' =>
              rw [hq] at h
              intro φ3 H3 v x3 S3 r3
              cases fl with
              | nx ρ3 => cases v with
                | nx σ3 => exact ⟨φ3, m', ρ3, S3, r3, xx.trans x3, h⟩
                | rt _ => exact r3.elim
              | rt w => cases v with
                | nx _ => exact r3.elim
                | rt v => exact (show D.rt v H3 from HG.rt (HG.shift (show HG X.K γ (wx E) [] (RelF X.K) b φ1 H1 (.ok (.rt w) m') (QF D) from h) (xx.trans x3)) S3 r3)
theorem ps_whileW {n : Nat} (hp : PassesOwn (model X.prog X.w) X.A X.env X.xe) (hc : PT X x (tT X.K γ (wx E) b f)) (hb : PSs X body (tS X.K γ E b fS)) :
    PS X (.While x body [] pos) (tS X.K γ E b fun ρ m => whl (fun ρ m => (f ρ m).bind fun w m1 => boolOf m1 w) (fun ρ m => fS ρ m) n ρ m) :=
  (ps_while hp hc hb).wk fun D σ H ⟨φ1, m1, ρ1, S1, re1, h1⟩ => by
    refine ⟨fun k σ H => ∃ φ m ρ, SR X.K φ m H ∧ RE X.K φ H ρ σ ∧ HG X.K γ (wx E) [] (RelF X.K) b φ H (whl (fun ρ m => (f ρ m).bind fun w m1 => boolOf m1 w) (fun ρ m => fS ρ m) k ρ m) (QF D), ⟨n, φ1, m1, ρ1, S1, re1, h1⟩, ?_⟩
    rintro k σ H ⟨φ, m, ρ, S, re, h⟩
    cases k with
    | zero => exact h.elim
    | succ k =>
      refine ⟨φ, m, ρ, S, re, ?_⟩
      have h : HG X.K γ (wx E) [] (RelF X.K) b φ H ((tst f ρ m).bind fun c m1 => if c then (fS ρ m1).bind fun s m2 => (match s with
        | .nx ρ' => whl (fun ρ m => (f ρ m).bind fun w m1 => boolOf m1 w) (fun ρ m => fS ρ m) k ρ' m2
        | .rt v => .ok (.rt v) m2) else .ok (.nx ρ) m1) (QF D) := h
      refine HG.sg (σ := []) ((HG.bind (Rel := fun _ _ x y => x = y) h).mono fun c H2 ⟨φ2, m2, c', x2, S2, e, h2⟩ => ?_)
      subst e
      have re2 := re.mono x2
      cases c' with
      | false => exact iteF (HG.nx h2 S2 re2)
      | true =>
        refine iteT ⟨fun σ' H' => ∃ φ m ρ, SR X.K φ m H' ∧ RE X.K φ H' ρ σ' ∧ HG X.K γ (wx E) [] (RelF X.K) b φ H' (whl (fun ρ m => (f ρ m).bind fun w m1 => boolOf m1 w) (fun ρ m => fS ρ m) k ρ m) (QF D), fun σ' H' q => ⟨k, Nat.lt_succ_self _, q⟩, φ2, m2, ρ, S2, re2, ?_⟩
        have h2 : HG X.K γ (wx E) [] (RelF X.K) b φ2 H2 ((fS ρ m2).bind fun s m2 => (match s with
          | .nx ρ' => whl (fun ρ m => (f ρ m).bind fun w m1 => boolOf m1 w) (fun ρ m => fS ρ m) k ρ' m2
          | .rt v => .ok (.rt v) m2)) (QF D) := h2
        refine (HG.bind (Rel := RelF X.K) h2).mono fun fv H3 ⟨φ3, m3, fl, x3, S3, r3, h3⟩ => ?_
        cases fl with
        | nx ρ3 => cases fv with
          | nx σ3 => exact ⟨φ3, m3, ρ3, S3, r3, h3⟩
          | rt _ => exact r3.elim
        | rt w => cases fv with
          | nx _ => exact r3.elim
          | rt v => exact (show D.rt v H3 from HG.rt (show HG X.K γ (wx E) [] (RelF X.K) b φ3 H3 (.ok (.rt w) m3) (QF D) from h3) S3 r3)
end

/-! ### comprehensions, as values and as what is stored -/
section
variable {X : Cx} {γ : Nat → Addr} {Wx : WX} {E : XK} {b : Nat}
theorem fsi_no (iter : Expr) (env : PySem.Env) (h : isSet iter = false) (x : Value) : foldedSetIterable iter env x = pure x := by
  cases iter <;> first | rfl | cases h
theorem pts_noW {Y : Cx} : PTs Y [] (tEq Y.K γ Wx b fun _ m => .ok true m) := ⟨fun pins s σ H Q I h => pts_nil.run pins s σ H Q I (by
  obtain ⟨φ, m, ρ, S, re, h⟩ := h
  exact HG.okI (a := true) (m := m) h S rfl)⟩
theorem pts_soW {Y : Cx} {c : Expr} {f : Env → List Cell → R W} (h : PT Y c (tT Y.K γ Wx b f)) : PTs Y [c] (tEq Y.K γ Wx b fun ρ m => (f ρ m).bind fun w m1 => boolOf m1 w) := pts_one h
end
end PV
namespace PV
open PySem PySem.Spec PyProof.Rows L2

/-! ### is a text the text of an IR -/
structure Bk where
  sc : Scope
  fb : Str → Bool
structure Cfg where
  N : List Str
  nm : List Str
  gl : List (Str × PyData)
def Bk.loc (k : Bk) (x : Str) : Bool := match k.sc.names.lookup x with
  | some .local => true
  | some .cell => k.fb x
  | _ => false
def Bk.vis (k : Bk) (x : Str) : Bool := match k.sc.names.lookup x with
  | some .local => true
  | some .cell => true
  | some .free => true
  | _ => false
def Bk.glob (k : Bk) (x : Str) : Bool := match k.sc.names.lookup x with
  | some .globalImplicit => true
  | _ => false
def Bk.isLoc (k : Bk) (x : Str) : Bool := match k.sc.names.lookup x with
  | some .local => true
  | _ => false
def Bk.inner (k : Bk) (scope : Scope) : Bk := ⟨relS scope k.sc, fun x => scope.names.lookup x == some .cell⟩
def isIte : Expr → Bool
  | .IfExp .. => true
  | _ => false
def isLC : Expr → Bool
  | .ListComp .. => true
  | _ => false
def isComp : Expr → Bool
  | .ListComp .. => true
  | .SetComp .. => true
  | .DictComp .. => true
  | _ => false
def baseB : Expr → Bool
  | .Call (.Name _ _) [] [] _ => false
  | _ => true
def cstB : PyData → Const → Bool
  | .int i, .int j => i == j
  | .bool a, .bool b => a == b
  | .none, .none => true
  | .str x, .str y => x == y && PyData.canLay0 (.str x)
  | _, _ => false
def opB : BOp → Operator → Bool
  | .add, .Add => true | .sub, .Sub => true | .mul, .Mult => true | .fdiv, .FloorDiv => true | .mod, .Mod => true | .pow, .Pow => true
  | .shl, .LShift => true | .shr, .RShift => true | .band, .BitAnd => true | .bor, .BitOr => true | _, _ => false
def opU : UOp → UnaryOp → Bool
  | .neg, .USub => true | .inv, .Invert => true | _, _ => false
def nmB (c : Cfg) (i : Nat) (x : Str) : Bool := match c.N[i]? with
  | some y => y == x
  | none => false
def chTg (c : Cfg) (k : Bk) : Tg → Expr → Bool
  | .name i, .Name x _ => nmB c i x && k.loc x
  | .pair i j, .Tuple [.Name x _, .Name y _] _ _ => nmB c i x && k.loc x && nmB c j y && k.loc y
  | _, _ => false
def ownP (N : List Str) (own : List Nat) : List (Str × Nat) := own.map fun i => (N.getD i "", i)
mutual
def dEq : PyData → PyData → Bool
  | .none, .none => true
  | .bool a, .bool b => a == b
  | .int a, .int b => a == b
  | .str a, .str b => a == b
  | .list a, .list b => dEqs a b
  | .tuple a, .tuple b => dEqs a b
  | _, _ => false
def dEqs : List PyData → List PyData → Bool
  | [], [] => true
  | a :: r, b :: s => dEq a b && dEqs r s
  | _, _ => false
end
mutual
theorem dEq_ok : ∀ (a b : PyData), dEq a b = true → a = b
  | .none, b, h => by cases b <;> first | rfl | cases h
  | .bool x, b, h => by cases b with
    | bool y => rw [eq_of_beq (show (x == y) = true from h)]
    | _ => cases h
  | .int x, b, h => by cases b with
    | int y => rw [eq_of_beq (show (x == y) = true from h)]
    | _ => cases h
  | .str x, b, h => by cases b with
    | str y => rw [eq_of_beq (show (x == y) = true from h)]
    | _ => cases h
  | .list x, b, h => by cases b with
    | list y => rw [dEqs_ok x y h]
    | _ => cases h
  | .tuple x, b, h => by cases b with
    | tuple y => rw [dEqs_ok x y h]
    | _ => cases h
  | .dict x, b, h => by cases b <;> cases h
theorem dEqs_ok : ∀ (a b : List PyData), dEqs a b = true → a = b
  | [], b, h => by cases b with
    | nil => rfl
    | cons _ _ => cases h
  | x :: r, b, h => by cases b with
    | nil => cases h
    | cons y s =>
      have h : (dEq x y && dEqs r s) = true := h
      simp only [Bool.and_eq_true] at h
      rw [dEq_ok x y h.1, dEqs_ok r s h.2]
end
mutual
def chE (c : Cfg) (k : Bk) : E → Expr → Bool
  | .cst d, .Constant v _ _ => cstB d v
  | .var i, .Name x _ => nmB c i x && k.vis x && !(x == ("__debug__" : Str)) && !(x == ("__classdict__" : Str))
  | .glob x d, .Name y _ => x == y && k.glob x && !(x == ("__debug__" : Str)) && (match c.gl.lookup x with
      | some d' => dEq d' d
      | none => false)
  | .tup es, .Tuple xs _ _ => chA c k es xs
  | .lst es, .List xs _ => chA c k es xs
  | .lstM es, .List xs _ => chA c k es xs
  | .bop o a b, .BinOp x op y _ => opB o op && chE c k a x && chE c k b y
  | .uop o a, .UnaryOp op x _ => opU o op && chE c k a x
  | .cmp o a b, .Compare x [op] [y] _ => copS o == op && !(isSet y) && chE c k a x && chE c k b y
  | .and a b, .BoolOp .And [x, y] _ => !(isIte x) && !(isIte y) && chE c k a x && chE c k b y
  | .and a b, .BoolOp .And (x :: y :: z :: r) p => !(isIte x) && chE c k a x && chE c k b (.BoolOp .And (y :: z :: r) p)
  | .or a b, .BoolOp .Or [x, y] _ => !(isIte x) && !(isIte y) && chE c k a x && chE c k b y
  | .or a b, .BoolOp .Or (x :: y :: z :: r) p => !(isIte x) && chE c k a x && chE c k b (.BoolOp .Or (y :: z :: r) p)
  | .not a, .UnaryOp .Not x _ => !(isIte x) && chE c k a x
  | .ite t a b, .IfExp x y z _ => !(isIte x) && chE c k t x && chE c k a y && chE c k b z
  | .call j es, .Call (.Name x _) xs [] _ => (match c.nm[j]? with
      | some y => y == x
      | none => false) && k.glob x && (xs.all fun e => !(isStar e)) && chA c k es xs
  | .bi p a, .Call (.Name f _) [x] [] _ => f == biN p && k.glob f && !(isStar x) && chE c k a x
  | .isi a t, .Call (.Name f _) [x, .Name y _] [] _ => f == ("isinstance" : Str) && k.glob f && y == tyNm t && k.glob y && !(isStar x) && chE c k a x
  | .isiTL a, .Call (.Name f _) [x, .Tuple [.Name y _, .Name z _] _ _] [] _ => f == ("isinstance" : Str) && k.glob f && y == ("tuple" : Str) && k.glob y && z == ("list" : Str) && k.glob z && !(isStar x) && chE c k a x
  | .lrng a, .Call (.Name f _) [.Call (.Name g _) [x] [] _] [] _ => f == ("list" : Str) && k.glob f && g == ("range" : Str) && k.glob g && !(isStar x) && chE c k a x
  | .trng a, .Call (.Name f _) [.Call (.Name g _) [x] [] _] [] _ => f == ("tuple" : Str) && k.glob f && g == ("range" : Str) && k.glob g && !(isStar x) && chE c k a x
  | .listM a, .Call (.Name f _) [x] [] _ => f == ("list" : Str) && k.glob f && !(isStar x) && chE c k a x
  | .mt m a b, .Call (.Attribute x n ap) [y] [] p => n == mtN m && baseB x && ap.endLine == p.line && !(isStar y) && chE c k a x && chE c k b y
  | .ix a b, .Subscript x y _ => !(isSlice y) && chE c k a x && chE c k b y
  | .sl a lo hi, .Subscript x (.Slice l h none _) _ => chE c k a x && chO c k lo l && chO c k hi h
  | .comp e t i cd own, .ListComp elt [⟨tg, iter, ifs, 0⟩] scope _ => blkC c.N k.sc scope (ownP c.N own) && !(isSet iter) && (t.ins.all fun i => own.contains i) && chI c k i iter && chTg c (k.inner scope) t tg && chC c (k.inner scope) cd ifs && chE c (k.inner scope) e elt
  | .comp2 e t i cd t1 i1 cd1 own own1, .ListComp elt [⟨tg, iter, ifs, 0⟩, ⟨tg1, iter1, ifs1, 0⟩] scope _ => blkC c.N k.sc scope (ownP c.N own) && !(isSet iter) && !(isSet iter1) && (t.ins.all fun i => own.contains i) && (t1.ins.all fun i => own1.contains i) && (own1.all fun i => own.contains i) &&
      chI c k i iter && chTg c (k.inner scope) t tg && chC c (k.inner scope) cd ifs && chI c (k.inner scope) i1 iter1 && chTg c (k.inner scope) t1 tg1 && chC c (k.inner scope) cd1 ifs1 && chE c (k.inner scope) e elt
  | _, _ => false
def chA (c : Cfg) (k : Bk) : Es → List Expr → Bool
  | .nil, [] => true
  | .cons e r, x :: xs => !(isStar x) && chE c k e x && chA c k r xs
  | .star e r, .Starred x _ :: xs => chE c k e x && chA c k r xs
  | _, _ => false
def chO (c : Cfg) (k : Bk) : Oe → Option Expr → Bool
  | .no, none => true
  | .so e, some x => chE c k e x
  | _, _ => false
def chC (c : Cfg) (k : Bk) : Oe → List Expr → Bool
  | .no, [] => true
  | .so e, [x] => !(isIte x) && chE c k e x
  | _, _ => false
def chI (c : Cfg) (k : Bk) : It → Expr → Bool
  | .ex e, x => chE c k e x
  | .rng e, .Call (.Name g _) [x] [] _ => g == ("range" : Str) && k.glob g && !(isStar x) && chE c k e x
  | _, _ => false
end
def blts : List Str := ["len", "int", "str", "list", "tuple", "sorted", "all", "any", "isinstance", "range", "bool"]

/-! ### contexts -/
structure Callee (prog : Program) (w : World) (K : PySem.W.Frag) (mg : Str → Option Value) (base : Heap) (A : Around) (T : Tab) (γ : Nat → Addr) (j : Nat) (x : Str) : Prop where
  ex : ∃ (k n : Nat) (fa : Addr) (fd : FuncData) (ps : List Str), ps.length = n ∧ (∀ b ws m, ws.length ≠ n → T j b ws m = .bad) ∧ FnOk prog w K mg base (L2.CX prog w) k fa fd ps (spT K T γ n j) ∧ Room k A ∧ mg x = some (.ref fa) ∧ PySem.W.keepIn K (.ref fa) = true ∧ Binds K fd ps [] ∧ (x == ("__debug__" : Str)) = false
structure Good (T : Tab) (γ : Nat → Addr) (c : Cfg) (k : Bk) (Wx : WX) (X : Cx) : Prop where
  hN : X.N = c.N
  nd : X.N.Nodup
  sc : X.env.scope = k.sc
  kind : k.sc.kind = .function
  fn : ∀ x, k.fb x = true → X.fn x = true
  calm : X.calm = true
  un : X.A.units + 70 < cLine
  blt : ∀ x ∈ blts, X.mg x = none
  cal : ∀ j x, c.nm[j]? = some x → Callee X.prog X.w X.K X.mg X.base X.A T γ j x
  glo : ∀ x d, c.gl.lookup x = some d → ∃ u v, X.mg x = some u ∧ RelV v u ∧ ∀ G, Dv X.K G v d
  tk : Takes X Wx
section
variable {T : Tab} {γ : Nat → Addr} {c : Cfg} {k : Bk} {Wx : WX} {X : Cx} {b : Nat}
theorem Good.blk (g : Good T γ c k Wx X) {scope : Scope} (hk : scope.kind = .function) (s : Shared) (H : Hp) (C : Addr) (cl : List (Str × Addr)) (fp : List Addr) : Good T γ c (k.inner scope) WF (X.blk s H scope (compEnvC scope cl C X.env) fp) where
  hN := g.hN
  nd := g.nd
  sc := by
    show relS scope X.env.scope = relS scope k.sc
    rw [g.sc]
  kind := hk
  fn := fun x h => h
  calm := g.calm
  un := g.un
  blt := g.blt
  cal := g.cal
  glo := g.glo
  tk := takes0
theorem Good.nm (g : Good T γ c k Wx X) {i : Nat} {x : Str} (h : nmB c i x = true) : X.N[i]? = some x := by
  unfold nmB at h
  rw [g.hN]
  split at h
  · rename_i y e
    rw [e, eq_of_beq h]
  · cases h
theorem Good.gl' (g : Good T γ c k Wx X) {x : Str} (h : k.glob x = true) : Gl X x := by
  unfold Bk.glob at h
  show X.env.scope.names.lookup x = _
  rw [g.sc]
  split at h
  · assumption
  · cases h
theorem Good.vis (g : Good T γ c k Wx X) {x : Str} (h : k.vis x = true) : Vis X.env.scope x := by
  unfold Bk.vis at h
  unfold Vis
  rw [g.sc]
  split at h
  · exact .inl (by assumption)
  · exact .inr (.inl (by assumption))
  · exact .inr (.inr (by assumption))
  · cases h
theorem Good.loc (g : Good T γ c k Wx X) {x : Str} (h : k.loc x = true) : Loc X.env.scope x ∧ (X.fn x = true ∨ X.env.scope.names.lookup x = some .local) := by
  unfold Bk.loc at h
  unfold L2.Loc
  rw [g.sc]
  split at h
  · exact ⟨.inl (by assumption), .inr (by assumption)⟩
  · exact ⟨.inr (by assumption), .inl (g.fn x h)⟩
  · cases h
theorem Good.call (g : Good T γ c k Wx X) {j : Nat} {x : Str} (h : c.nm[j]? = some x) (hg : k.glob x = true) : CallOk X T γ Wx j x := by
  obtain ⟨kk, n, fa, fd, ps, h1, h2, F, hr, hm, hk, hb, hd⟩ := (g.cal j x h).ex
  exact callOk h1 h2 F hr (g.gl' hg) hm hk hb g.tk hd
theorem Good.pg (g : Good T γ c k Wx X) {t : Tg} {tg : Expr} (h : chTg c k t tg = true) : PG X tg (gOf X.K t) := by
  unfold chTg at h
  split at h
  · simp only [Bool.and_eq_true] at h
    obtain ⟨h1, h2⟩ := h
    obtain ⟨l1, l2⟩ := g.loc h2
    exact pg_name g.nd (g.nm h1) l1 l2
  · simp only [Bool.and_eq_true] at h
    obtain ⟨⟨⟨h1, h2⟩, h3⟩, h4⟩ := h
    obtain ⟨l1, l2⟩ := g.loc h2
    obtain ⟨l3, l4⟩ := g.loc h4
    exact pg_tup g.calm (pgs_cons (pg_name g.nd (g.nm h1) l1 l2) (pgs_cons (pg_name g.nd (g.nm h3) l3 l4) pgs_nil rfl) rfl) rfl rfl
  · cases h
theorem cst_ok {d : PyData} {v : Const} {kd : Nat} {pos : Pos} (h : cstB d v = true) : PE X (.Constant v kd pos) (tW X.K γ Wx b fun _ m => .ok (.d d) m) := by
  unfold cstB at h
  split at h
  · rw [eq_of_beq h]
    exact pe_d pe_int (fun _ _ _ q => q) fun _ => .int _
  · rw [eq_of_beq h]
    exact pe_d pe_bl (fun _ _ _ q => q) fun _ => .bl _
  · exact pe_d pe_non (fun _ _ _ q => q) fun _ => .non
  · simp only [Bool.and_eq_true] at h
    rw [← eq_of_beq h.1]
    exact pe_d pe_str (fun _ _ _ q => q) fun _ => .str _ h.2
  · cases h
theorem base_ok {x : Expr} {n : Str} {env : PySem.Env} (h : baseB x = true) : attributeBase x n env (eval x env) = eval x env := by
  unfold attributeBase
  cases x with
  | Call f as ks p =>
    cases f with
    | Name id q =>
      cases as with
      | nil =>
        cases ks with
        | nil => cases h
        | cons _ _ => rfl
      | cons _ _ => rfl
    | _ => rfl
  | _ => rfl
theorem opB_ok {o : BOp} {op : Operator} (h : opB o op = true) : op = bopS o := by cases o <;> cases op <;> first | rfl | cases h
theorem opU_ok {o : UOp} {op : UnaryOp} (h : opU o op = true) : op = uopS o := by cases o <;> cases op <;> first | rfl | cases h
theorem ownP_map (N : List Str) (own : List Nat) : (ownP N own).map (·.2) = own := by
  unfold ownP
  rw [List.map_map]
  exact List.map_id _
/-- a comprehension, as a value and as what is stored -/
def LcOk (X : Cx) (γ : Nat → Addr) (Wx : WX) (b : Nat) (x : Expr) (f : Env → List Cell → R W) : Prop :=
  ∃ te : TE, (∀ σ H Q, tW X.K γ Wx b f σ H Q → te σ H Q) ∧ PE X x te ∧ ∀ (i : Nat) (y : Str) (py spos : Pos), X.N[i]? = some y → X.env.scope.names.lookup y = some .local → swapsWith x (some (.Name y py)) spos.line X.env = pure true → PS X (.Assign [.Name y py] x spos) (tAsg te (gName i))
structure OKE (X : Cx) (γ : Nat → Addr) (Wx : WX) (b : Nat) (x : Expr) (f : Env → List Cell → R W) : Prop where
  pe : PE X x (tW X.K γ Wx b f)
  pt : isIte x = false → PT X x (tT X.K γ Wx b f)
  lc : isLC x = true → LcOk X γ Wx b x f
theorem OKE.snd {x : Expr} {f : Env → List Cell → R W} (h : OKE X γ Wx b x f) (hi : (!(isIte x)) = true) : Snd X γ Wx b x f := ⟨h.pe, h.pt (by simpa using hi)⟩
theorem OKE.of {x : Expr} {f : Env → List Cell → R W} (h : PE X x (tW X.K γ Wx b f)) (hp : plainTest x = true) (hl : isLC x = false) : OKE X γ Wx b x f := ⟨h, fun _ => (Snd.of h hp).pt, fun z => by rw [hl] at z; cases z⟩
theorem OKE.ofS {x : Expr} {f : Env → List Cell → R W} (h : Snd X γ Wx b x f) (hl : isLC x = false) : OKE X γ Wx b x f := ⟨h.pe, fun _ => h.pt, fun z => by rw [hl] at z; cases z⟩
end
end PV
namespace PV
open PySem PySem.Spec PyProof.Rows L2
section
variable {T : Tab} {γ : Nat → Addr} {c : Cfg} {b : Nat}
theorem bmem {x : Str} (h : x ∈ blts) : x ∈ blts := h
theorem lc_fe {X : Cx} {γ : Nat → Addr} {Wx : WX} {b : Nat} {x : Expr} {f f' : Env → List Cell → R W} (h : OKE X γ Wx b x f) (e : f = f') : OKE X γ Wx b x f' := e ▸ h
theorem bi_mem (p : Bi) : biN p ∈ blts := by cases p <;> decide
theorem ty_mem (t : Ty) : tyNm t ∈ blts := by cases t <;> decide
theorem not_t {a : Bool} (h : (!a) = true) : a = false := by simpa using h
mutual
theorem chE_ok : ∀ (e : E) {k : Bk} {Wx : WX} {X : Cx} {x : Expr}, Good T γ c k Wx X → chE c k e x = true → OKE X γ Wx b x (ev T b e)
  | .cst d, k, Wx, X, x, g, h => by
    unfold chE at h
    split at h <;> first | (cases h; done) | (rename_i heq; cases heq)
    rename_i v kd pos
    exact lc_fe (OKE.of (cst_ok h) rfl rfl) (by funext ρ m; rw [ev])
  | .var i, k, Wx, X, x, g, h => by
    unfold chE at h
    split at h <;> first | (cases h; done) | (rename_i heq; cases heq)
    rename_i y pos
    simp only [Bool.and_eq_true] at h
    obtain ⟨⟨⟨h1, h2⟩, h3⟩, h4⟩ := h
    exact lc_fe (OKE.of (pe_varW (g.nm h1) (g.vis h2) (not_t h3) (not_t h4)) rfl rfl) (by funext ρ m; rw [ev])
  | .glob y d, k, Wx, X, x, g, h => by
    unfold chE at h
    split at h <;> first | (cases h; done) | (rename_i heq; cases heq)
    simp only [Bool.and_eq_true] at h
    obtain ⟨⟨⟨h0, h1⟩, h2⟩, h3⟩ := h
    have ez := eq_of_beq h0
    subst ez
    split at h3
    · rename_i d' hd
      obtain ⟨u, v, hm, r, hv⟩ := g.glo _ _ hd
      have e2 := dEq_ok _ _ h3
      subst e2
      exact lc_fe (OKE.of (pe_d (pe_glob (g.gl' h1) hm r (not_t h2)) (fun _ _ _ q => q) hv) rfl rfl) (by funext ρ m; rw [ev])
    · cases h3
  | .tup es, k, Wx, X, x, g, h => by
    unfold chE at h
    split at h <;> first | (cases h; done) | (rename_i heq; cases heq)
    exact lc_fe (OKE.of (pe_tupW (chA_ok es g h)) rfl rfl) (by funext ρ m; rw [ev])
  | .lst es, k, Wx, X, x, g, h => by
    unfold chE at h
    split at h <;> first | (cases h; done) | (rename_i heq; cases heq)
    exact lc_fe (OKE.of (pe_lstW (chA_ok es g h)) rfl rfl) (by funext ρ m; rw [ev])
  | .lstM es, k, Wx, X, x, g, h => by
    unfold chE at h
    split at h <;> first | (cases h; done) | (rename_i heq; cases heq)
    exact lc_fe (OKE.of (pe_lstMW (chA_ok es g h)) rfl rfl) (by funext ρ m; rw [ev])
  | .bop o p q, k, Wx, X, x, g, h => by
    unfold chE at h
    split at h <;> first | (cases h; done) | (rename_i heq; cases heq)
    simp only [Bool.and_eq_true] at h
    obtain ⟨⟨h1, h2⟩, h3⟩ := h
    rw [opB_ok h1]
    exact lc_fe (OKE.of (pe_bopW o (chE_ok p g h2).pe (chE_ok q g h3).pe) rfl rfl) (by funext ρ m; rw [ev])
  | .uop o p, k, Wx, X, x, g, h => by
    unfold chE at h
    split at h <;> first | (cases h; done) | (rename_i heq; cases heq)
    simp only [Bool.and_eq_true] at h
    obtain ⟨h1, h2⟩ := h
    rw [opU_ok h1]
    exact lc_fe (OKE.of (pe_uopW o (chE_ok p g h2).pe) (by cases o <;> rfl) rfl) (by funext ρ m; rw [ev])
  | .cmp o p q, k, Wx, X, x, g, h => by
    unfold chE at h
    split at h <;> first | (cases h; done) | (rename_i heq; cases heq)
    simp only [Bool.and_eq_true] at h
    obtain ⟨⟨⟨h0, h1⟩, h2⟩, h3⟩ := h
    rw [← eq_of_beq h0]
    have hu : X.A.units + 65 < cLine := by have := g.un; omega
    exact lc_fe (OKE.ofS ⟨pe_cmpW o hu (chE_ok p g h2).pe (chE_ok q g h3).pe (not_t h1), pt_cmpW o hu (chE_ok p g h2).pe (chE_ok q g h3).pe (not_t h1)⟩ rfl) (by funext ρ m; rw [ev])
  | .chn o o' p q r, k, Wx, X, x, g, h => by
    unfold chE at h
    cases h
  | .and p q, k, Wx, X, x, g, h => by
    unfold chE at h
    split at h <;> first | (cases h; done) | (rename_i heq; cases heq)
    · simp only [Bool.and_eq_true] at h
      obtain ⟨⟨⟨h0, h1⟩, h2⟩, h3⟩ := h
      exact lc_fe (OKE.ofS (Snd.and ((chE_ok p g h2).snd h0) (Snd.one ((chE_ok q g h3).snd h1))) rfl) (by funext ρ m; first | (rw [ev]; done) | (rw [ev]; rfl))
    · simp only [Bool.and_eq_true] at h
      obtain ⟨⟨h0, h2⟩, h3⟩ := h
      exact lc_fe (OKE.ofS (Snd.and ((chE_ok p g h2).snd h0) ((chE_ok q g h3).snd rfl)) rfl) (by funext ρ m; first | (rw [ev]; done) | (rw [ev]; rfl))
  | .or p q, k, Wx, X, x, g, h => by
    unfold chE at h
    split at h <;> first | (cases h; done) | (rename_i heq; cases heq)
    · simp only [Bool.and_eq_true] at h
      obtain ⟨⟨⟨h0, h1⟩, h2⟩, h3⟩ := h
      exact lc_fe (OKE.ofS (Snd.or ((chE_ok p g h2).snd h0) (Snd.one ((chE_ok q g h3).snd h1))) rfl) (by funext ρ m; first | (rw [ev]; done) | (rw [ev]; rfl))
    · simp only [Bool.and_eq_true] at h
      obtain ⟨⟨h0, h2⟩, h3⟩ := h
      exact lc_fe (OKE.ofS (Snd.or ((chE_ok p g h2).snd h0) ((chE_ok q g h3).snd rfl)) rfl) (by funext ρ m; first | (rw [ev]; done) | (rw [ev]; rfl))
  | .not p, k, Wx, X, x, g, h => by
    unfold chE at h
    split at h <;> first | (cases h; done) | (rename_i heq; cases heq)
    simp only [Bool.and_eq_true] at h
    exact lc_fe (OKE.ofS (Snd.not ((chE_ok p g h.2).snd h.1)) rfl) (by funext ρ m; first | (rw [ev]; done) | (rw [ev]; rfl))
  | .ite t p q, k, Wx, X, x, g, h => by
    unfold chE at h
    split at h <;> first | (cases h; done) | (rename_i heq; cases heq)
    simp only [Bool.and_eq_true] at h
    obtain ⟨⟨⟨h0, h1⟩, h2⟩, h3⟩ := h
    exact lc_fe ⟨Snd.ite ((chE_ok t g h1).snd h0) (chE_ok p g h2).pe (chE_ok q g h3).pe, fun z => (by cases z), fun z => (by cases z)⟩ (by funext ρ m; first | (rw [ev]; done) | (rw [ev]; rfl))
  | .call j es, k, Wx, X, x, g, h => by
    unfold chE at h
    split at h <;> first | (cases h; done) | (rename_i heq; cases heq)
    rename_i y np xs pos
    simp only [Bool.and_eq_true] at h
    obtain ⟨⟨⟨h0, h1⟩, h2⟩, h3⟩ := h
    have hj : c.nm[j]? = some y := by
      split at h0
      · rename_i z e
        rw [e, eq_of_beq h0]
      · cases h0
    have hc := g.call hj h1
    have ha := chA_ok es g h3
    refine lc_fe (f := fun ρ m => (evs T b es ρ m).bind fun ws m1 => T j b ws m1) (OKE.of ?_ rfl rfl) (by funext ρ m; rw [ev])
    cases xs with
    | nil =>
      cases es with
      | nil =>
        have e : (fun (ρ : Env) (m : List Cell) => (evs T b .nil ρ m).bind fun ws m1 => T j b ws m1) = fun _ m => T j b [] m := by
          funext ρ m
          first | (rw [evs]; done) | (rw [evs]; rfl)
        rw [e]
        exact hc.none b np pos
      | cons _ _ => unfold chA at h3; cases h3
      | star _ _ => unfold chA at h3; cases h3
    | cons y ys =>
      refine hc.more b y ys _ np pos (fun z hz => ?_) ha
      have := List.all_eq_true.mp h2 z hz
      exact not_t this
  | .bi p a, k, Wx, X, x, g, h => by
    unfold chE at h
    split at h <;> first | (cases h; done) | (rename_i heq; cases heq)
    simp only [Bool.and_eq_true] at h
    obtain ⟨⟨⟨h0, h1⟩, h2⟩, h3⟩ := h
    have ez := eq_of_beq h0
    subst ez
    exact lc_fe (OKE.of (pe_biW p g.un g.calm (g.gl' h1) (g.blt _ (bi_mem p)) (not_t h2) (chE_ok a g h3).pe) rfl rfl) (by funext ρ m; rw [ev])
  | .isi a t, k, Wx, X, x, g, h => by
    unfold chE at h
    split at h <;> first | (cases h; done) | (rename_i heq; cases heq)
    simp only [Bool.and_eq_true] at h
    obtain ⟨⟨⟨⟨⟨h0, h1⟩, h2⟩, h3⟩, h4⟩, h5⟩ := h
    have ez := eq_of_beq h0
    subst ez
    have ez := eq_of_beq h2
    subst ez
    exact lc_fe (OKE.of (pe_isiW t (g.gl' h1) (g.blt _ (by decide)) (g.gl' h3) (g.blt _ (ty_mem t)) (not_t h4) (chE_ok a g h5).pe) rfl rfl) (by funext ρ m; rw [ev])
  | .isiTL a, k, Wx, X, x, g, h => by
    unfold chE at h
    split at h <;> first | (cases h; done) | (rename_i heq; cases heq)
    simp only [Bool.and_eq_true] at h
    obtain ⟨⟨⟨⟨⟨⟨⟨h0, h1⟩, h2⟩, h3⟩, h4⟩, h5⟩, h6⟩, h7⟩ := h
    have ez := eq_of_beq h0
    subst ez
    have ez := eq_of_beq h2
    subst ez
    have ez := eq_of_beq h4
    subst ez
    exact lc_fe (OKE.of (pe_isiTLW (g.gl' h1) (g.blt _ (by decide)) (g.gl' h3) (g.blt _ (by decide)) (g.gl' h5) (g.blt _ (by decide)) (not_t h6) (chE_ok a g h7).pe) rfl rfl) (by funext ρ m; rw [ev])
  | .lrng a, k, Wx, X, x, g, h => by
    unfold chE at h
    split at h <;> first | (cases h; done) | (rename_i heq; cases heq)
    simp only [Bool.and_eq_true] at h
    obtain ⟨⟨⟨⟨⟨h0, h1⟩, h2⟩, h3⟩, h4⟩, h5⟩ := h
    have ez := eq_of_beq h0
    subst ez
    have ez := eq_of_beq h2
    subst ez
    exact lc_fe (OKE.of (pe_lrngW g.calm (g.gl' h1) (g.blt _ (by decide)) (g.gl' h3) (g.blt _ (by decide)) (not_t h4) (chE_ok a g h5).pe) rfl rfl) (by funext ρ m; rw [ev])
  | .trng a, k, Wx, X, x, g, h => by
    unfold chE at h
    split at h <;> first | (cases h; done) | (rename_i heq; cases heq)
    simp only [Bool.and_eq_true] at h
    obtain ⟨⟨⟨⟨⟨h0, h1⟩, h2⟩, h3⟩, h4⟩, h5⟩ := h
    have ez := eq_of_beq h0
    subst ez
    have ez := eq_of_beq h2
    subst ez
    exact lc_fe (OKE.of (pe_trngW g.calm (g.gl' h1) (g.blt _ (by decide)) (g.gl' h3) (g.blt _ (by decide)) (not_t h4) (chE_ok a g h5).pe) rfl rfl) (by funext ρ m; rw [ev])
  | .listM a, k, Wx, X, x, g, h => by
    unfold chE at h
    split at h <;> first | (cases h; done) | (rename_i heq; cases heq)
    simp only [Bool.and_eq_true] at h
    obtain ⟨⟨⟨h0, h1⟩, h2⟩, h3⟩ := h
    have ez := eq_of_beq h0
    subst ez
    exact lc_fe (OKE.of (pe_listMW (g.gl' h1) (g.blt _ (by decide)) (not_t h2) (chE_ok a g h3).pe) rfl rfl) (by funext ρ m; first | (rw [ev]; done) | (rw [ev]; rfl))
  | .mt mm p q, k, Wx, X, x, g, h => by
    unfold chE at h
    split at h <;> first | (cases h; done) | (rename_i heq; cases heq)
    simp only [Bool.and_eq_true] at h
    obtain ⟨⟨⟨⟨⟨h0, h1⟩, h2⟩, h3⟩, h4⟩, h5⟩ := h
    have ez := eq_of_beq h0
    subst ez
    have hu : X.A.units + 65 < cLine := by have := g.un; omega
    exact lc_fe (OKE.of (pe_mtW mm hu (not_t h3) (base_ok h1) h2 (chE_ok p g h4).pe (chE_ok q g h5).pe) rfl rfl) (by funext ρ m; rw [ev])
  | .ix p q, k, Wx, X, x, g, h => by
    unfold chE at h
    split at h <;> first | (cases h; done) | (rename_i heq; cases heq)
    simp only [Bool.and_eq_true] at h
    obtain ⟨⟨h0, h1⟩, h2⟩ := h
    exact lc_fe (OKE.of (pe_ixW (plainIx_of _ (not_t h0)) (chE_ok p g h1).pe (chE_ok q g h2).pe) rfl rfl) (by funext ρ m; rw [ev])
  | .sl p lo hi, k, Wx, X, x, g, h => by
    unfold chE at h
    split at h <;> first | (cases h; done) | (rename_i heq; cases heq)
    simp only [Bool.and_eq_true] at h
    obtain ⟨⟨h0, h1⟩, h2⟩ := h
    exact lc_fe (OKE.of (pe_slW (chE_ok p g h0).pe (chO_ok lo g h1) (chO_ok hi g h2)) rfl rfl) (by funext ρ m; rw [ev])
  | .comp e t i cd own, k, Wx, X, x, g, h => by
    unfold chE at h
    split at h <;> first | (cases h; done) | (rename_i heq; cases heq)
    rename_i elt tg iter ifs scope pos
    simp only [Bool.and_eq_true] at h
    obtain ⟨⟨⟨⟨⟨⟨h0, h1⟩, h2⟩, h3⟩, h4⟩, h5⟩, h6⟩ := h
    have ok := blkOk_by h0
    rw [← g.hN, ← g.sc] at ok
    have gb := fun s H C cl fp => g.blk ok.kind s H C cl fp
    have hins : ∀ i ∈ t.ins, i ∈ (ownP X.N own).map (·.2) := fun i hi => by
      rw [ownP_map]
      have := List.all_eq_true.mp h2 i hi
      simpa using this
    have hi := chI_ok i (tg := tg) g h3
    have hs := fsi_no iter X.env (not_t h1)
    have key : ∀ σ H Q, tW X.K γ Wx b (ev T b (.comp e t i cd own)) σ H Q → tLc (tI false X.K γ Wx b (evi T b i)) (gOf X.K t) (tEq X.K γ WF b (evc T b cd)) (tW X.K γ WF b (ev T b e)) ((ownP X.N own).map (·.2)) σ H Q := fun σ H Q q => by
      rw [ownP_map] at hins ⊢
      refine lcW hins (fun z => by cases z) ?_
      have ee : ev T b (.comp e t i cd own) = (fun ρ m => (evi T b i ρ m).bind fun s m1 => (fldS (cS t own (evc T b cd) (ev T b e) m1.length ρ) s (m1 ++ [.lst []])).bind fun _ m2 => finC m1.length m2) := by
        funext ρ m
        first | (rw [ev]; done) | (rw [ev]; rfl)
      rw [← ee]
      exact q
    have hlc := pe_lc g.calm g.nd hi ok (fun s H C cl fp => (gb s H C cl fp).pg h4) (fun s H C cl fp => chC_ok cd (gb s H C cl fp) h5) (fun s H C cl fp => (chE_ok e (gb s H C cl fp) h6).pe) hs (elt := elt) (pos := pos) (g := gOf X.K t) (tt := tEq X.K γ WF b (evc T b cd)) (te := tW X.K γ WF b (ev T b e))
    exact ⟨hlc.wk key, fun _ => (Snd.of (hlc.wk key) rfl).pt, fun _ => ⟨_, key, hlc, fun i y py spos hy hyl hsw => ps_setLc g.calm g.nd hy hyl hsw hi ok (fun s H C cl fp => (gb s H C cl fp).pg h4) (fun s H C cl fp => chC_ok cd (gb s H C cl fp) h5) (fun s H C cl fp => (chE_ok e (gb s H C cl fp) h6).pe) hs⟩⟩
  | .comp2 e t i cd t1 i1 cd1 own own1, k, Wx, X, x, g, h => by
    unfold chE at h
    split at h <;> first | (cases h; done) | (rename_i heq; cases heq)
    rename_i elt tg iter ifs tg1 iter1 ifs1 scope pos
    simp only [Bool.and_eq_true] at h
    obtain ⟨⟨⟨⟨⟨⟨⟨⟨⟨⟨⟨⟨h0, h1⟩, h1'⟩, h2⟩, h2'⟩, h2''⟩, h3⟩, h4⟩, h5⟩, h3'⟩, h4'⟩, h5'⟩, h6⟩ := h
    have ok := blkOk_by h0
    rw [← g.hN, ← g.sc] at ok
    have gb := fun s H C cl fp => g.blk ok.kind s H C cl fp
    have hins : ∀ i ∈ t.ins, i ∈ (ownP X.N own).map (·.2) := fun i hi => by
      rw [ownP_map]
      have := List.all_eq_true.mp h2 i hi
      simpa using this
    have hins1 : ∀ i ∈ t1.ins, i ∈ own1 := fun i hi => by
      have := List.all_eq_true.mp h2' i hi
      simpa using this
    have hv : ∀ i ∈ own1, i ∈ (ownP X.N own).map (·.2) := fun i hi => by
      rw [ownP_map]
      have := List.all_eq_true.mp h2'' i hi
      simpa using this
    have hi := chI_ok i (tg := tg) g h3
    have hs := fsi_no iter X.env (not_t h1)
    have hs1 := fun env => fsi_no iter1 env (not_t h1')
    have key : ∀ σ H Q, tW X.K γ Wx b (ev T b (.comp2 e t i cd t1 i1 cd1 own own1)) σ H Q → tLc2 (tI false X.K γ Wx b (evi T b i)) (gOf X.K t) (tEq X.K γ WF b (evc T b cd)) (tI false X.K γ WF b (evi T b i1)) (gOf X.K t1) (tEq X.K γ WF b (evc T b cd1)) (tW X.K γ WF b (ev T b e)) ((ownP X.N own).map (·.2)) own1 σ H Q := fun σ H Q q => by
      rw [ownP_map] at hins ⊢
      refine lc2W hins (fun z => by cases z) hins1 (fun z => by cases z) ?_
      have ee : ev T b (.comp2 e t i cd t1 i1 cd1 own own1) = (fun ρ m => (evi T b i ρ m).bind fun s m1 => (fldS (cS2 t own (evc T b cd) (evi T b i1) t1 own1 (evc T b cd1) (ev T b e) m1.length ρ) s (m1 ++ [.lst []])).bind fun _ m2 => finC m1.length m2) := by
        funext ρ m
        first | (rw [ev]; done) | (rw [ev]; rfl)
      rw [← ee]
      exact q
    have hlc := pe_lc2 g.calm g.nd hi ok hv (fun s H C cl fp => (gb s H C cl fp).pg h4) (fun s H C cl fp => chC_ok cd (gb s H C cl fp) h5) (fun s H C cl fp => chI_ok i1 (gb s H C cl fp) h3') (fun s H C cl fp => (gb s H C cl fp).pg h4') (fun s H C cl fp => chC_ok cd1 (gb s H C cl fp) h5') (fun s H C cl fp => (chE_ok e (gb s H C cl fp) h6).pe) hs hs1 (elt := elt) (pos := pos) (g := gOf X.K t) (tt := tEq X.K γ WF b (evc T b cd)) (te := tW X.K γ WF b (ev T b e)) (tt1 := tEq X.K γ WF b (evc T b cd1)) (wi1 := tI false X.K γ WF b (evi T b i1)) (g1 := gOf X.K t1)
    exact ⟨hlc.wk key, fun _ => (Snd.of (hlc.wk key) rfl).pt, fun _ => ⟨_, key, hlc, fun i y py spos hy hyl hsw => ps_setLc2 g.calm g.nd hy hyl hsw hi ok hv (fun s H C cl fp => (gb s H C cl fp).pg h4) (fun s H C cl fp => chC_ok cd (gb s H C cl fp) h5) (fun s H C cl fp => chI_ok i1 (gb s H C cl fp) h3') (fun s H C cl fp => (gb s H C cl fp).pg h4') (fun s H C cl fp => chC_ok cd1 (gb s H C cl fp) h5') (fun s H C cl fp => (chE_ok e (gb s H C cl fp) h6).pe) hs hs1⟩⟩
theorem chA_ok : ∀ (es : Es) {k : Bk} {Wx : WX} {X : Cx} {xs : List Expr}, Good T γ c k Wx X → chA c k es xs = true → PA X xs (tWs X.K γ Wx b (evs T b es))
  | .nil, k, Wx, X, xs, g, h => by
    unfold chA at h
    split at h <;> first | (cases h; done) | (rename_i heq; cases heq)
    have e : evs T b .nil = fun _ m => .ok [] m := by funext ρ m; rw [evs]
    rw [e]
    exact pa_nilW
  | .cons e r, k, Wx, X, xs, g, h => by
    unfold chA at h
    split at h <;> first | (cases h; done) | (rename_i heq; cases heq)
    simp only [Bool.and_eq_true] at h
    obtain ⟨⟨h0, h1⟩, h2⟩ := h
    have ee : evs T b (.cons e r) = fun ρ m => (ev T b e ρ m).bind fun w m1 => (evs T b r ρ m1).bind fun ws m2 => .ok (w :: ws) m2 := by funext ρ m; rw [evs]
    rw [ee]
    exact pa_consW (not_t h0) (chE_ok e g h1).pe (chA_ok r g h2)
  | .star e r, k, Wx, X, xs, g, h => by
    unfold chA at h
    split at h <;> first | (cases h; done) | (rename_i heq; cases heq)
    simp only [Bool.and_eq_true] at h
    obtain ⟨h1, h2⟩ := h
    have ee : evs T b (.star e r) = fun ρ m => (ev T b e ρ m).bind fun w m1 => (match rdW m1 w with
      | some (.tuple xs) => (evs T b r ρ m1).bind fun ws m2 => .ok (xs.map .d ++ ws) m2
      | some (.list xs) => (evs T b r ρ m1).bind fun ws m2 => .ok (xs.map .d ++ ws) m2
      | _ => .bad) := by funext ρ m; first | (rw [evs]; done) | (rw [evs]; rfl)
    rw [ee]
    exact pa_starW (chE_ok e g h1).pe (chA_ok r g h2)
theorem chO_ok : ∀ (o : Oe) {k : Bk} {Wx : WX} {X : Cx} {x : Option Expr}, Good T γ c k Wx X → chO c k o x = true → PO X x (tO X.K γ Wx b (evo T b o))
  | .no, k, Wx, X, x, g, h => by
    unfold chO at h
    split at h <;> first | (cases h; done) | (rename_i heq; cases heq)
    have ee : evo T b .no = fun _ m => .ok none m := by funext ρ m; rw [evo]
    rw [ee]
    exact po_noW
  | .so e, k, Wx, X, x, g, h => by
    unfold chO at h
    split at h <;> first | (cases h; done) | (rename_i heq; cases heq)
    have ee : evo T b (.so e) = fun ρ m => (ev T b e ρ m).bind fun w m1 => (intOf m1 w).bind fun i _ => .ok (some i) m1 := by funext ρ m; rw [evo]
    rw [ee]
    exact po_soW (chE_ok e g h).pe
theorem chC_ok : ∀ (o : Oe) {k : Bk} {Wx : WX} {X : Cx} {xs : List Expr}, Good T γ c k Wx X → chC c k o xs = true → PTs X xs (tEq X.K γ Wx b (evc T b o))
  | .no, k, Wx, X, x, g, h => by
    unfold chC at h
    split at h <;> first | (cases h; done) | (rename_i heq; cases heq)
    have ee : evc T b .no = fun _ m => .ok true m := by funext ρ m; rw [evc]
    rw [ee]
    exact pts_noW
  | .so e, k, Wx, X, x, g, h => by
    unfold chC at h
    split at h <;> first | (cases h; done) | (rename_i heq; cases heq)
    simp only [Bool.and_eq_true] at h
    have ee : evc T b (.so e) = fun ρ m => (ev T b e ρ m).bind fun w m1 => boolOf m1 w := by funext ρ m; rw [evc]
    rw [ee]
    exact pts_soW ((chE_ok e g h.2).snd h.1).pt
theorem chI_ok : ∀ (i : It) {k : Bk} {Wx : WX} {X : Cx} {tg x : Expr}, Good T γ c k Wx X → chI c k i x = true → PI X tg x (tI false X.K γ Wx b (evi T b i))
  | .ex e, k, Wx, X, tg, x, g, h => by
    unfold chI at h
    have ee : evi T b (.ex e) = fun ρ m => (ev T b e ρ m).bind fun w m1 => ofO m1 (srcW m1 w) := by funext ρ m; rw [evi]
    rw [ee]
    exact pi_exW (chE_ok e g h).pe
  | .rng e, k, Wx, X, tg, x, g, h => by
    unfold chI at h
    split at h <;> first | (cases h; done) | (rename_i heq; cases heq)
    simp only [Bool.and_eq_true] at h
    obtain ⟨⟨⟨h0, h1⟩, h2⟩, h3⟩ := h
    have e1 := eq_of_beq h0
    subst e1
    have ee : evi T b (.rng e) = fun ρ m => (ev T b e ρ m).bind fun w m1 => (intOf m1 w).bind fun i _ => ofO m1 ((rngD i).map .d) := by funext ρ m; rw [evi]
    rw [ee]
    exact pi_rngW (g.gl' h1) (g.blt _ (by decide)) (not_t h2) (chE_ok e g h3).pe
  | .enum e, k, Wx, X, tg, x, g, h => by
    unfold chI at h
    cases h
  | .zip e e', k, Wx, X, tg, x, g, h => by
    unfold chI at h
    cases h
end
end
end PV
namespace PV
open PySem PySem.Spec PyProof.Rows L2

/-! ### which stores are swapped -/
def swapB (k : Bk) (x : Expr) (y : Str) (py : Pos) : Bool := match x with
  | .ListComp _ _ scope pos => k.isLoc y && py.line == pos.line && !(scope.names.any fun (n, kk) => n == y && (kk == .local || kk == .cell))
  | _ => false
theorem sw_no {x : Expr} {t : Option Expr} {l : Nat} {env : PySem.Env} (h : isComp x = false) : swapsWith x t l env = pure false := by
  cases x <;> first | rfl | cases h
theorem sw_sub {x o i : Expr} {p : Pos} {l : Nat} {env : PySem.Env} : swapsWithSole [.Subscript o i p] x l env = pure false := by
  cases x <;> rfl
theorem blockK {env : PySem.Env} (hk : env.scope.kind = .function) : env.blockKind = .function := by unfold Env.blockKind; rw [hk]; rfl
theorem sw_lc {elt : Expr} {gs : List Comprehension} {scope : Scope} {pos py : Pos} {y : Str} {l : Nat} {env : PySem.Env} (hk : env.scope.kind = .function) :
    swapsWith (.ListComp elt gs scope pos) (some (.Name y py)) l env = pure (env.kindOf y == some .local && py.line == pos.line && !(scope.names.any fun (n, k) => n == y && (k == .local || k == .cell))) := by
  have hb := blockK hk
  unfold swapsWith
  simp only [hb, Expr.pos]
  rfl
def tgNames (sc : Scope) (line : Nat) (ts : List Expr) : List Str := ts.filterMap fun
    | .Name id pos => if sc.names.lookup id == some .local && pos.line == line then some id else none
    | _ => none
def swS (sc : Scope) (ts vs : List Expr) : Option (Option (List Str)) :=
  if !(ts.length == 2 || ts.length == 3) || vs.length != ts.length then some none
  else if vs.any isStar then some none
  else if (tgNames sc ((ts.head?.map (·.pos.line)).getD 0) ts).length != ts.length || (tgNames sc ((ts.head?.map (·.pos.line)).getD 0) ts).eraseDups.length != (tgNames sc ((ts.head?.map (·.pos.line)).getD 0) ts).length then some none
  else if vs.all (foldedForSure 8) then some none
  else if vs.all (constantsAlone 8) then none
  else some (some (tgNames sc ((ts.head?.map (·.pos.line)).getD 0) ts))
theorem swS_ok {ts vs : List Expr} {a c : Nat} {p q : Pos} {env : PySem.Env} {r : Option (List Str)} (hk : env.scope.kind = .function) (h : swS env.scope ts vs = some r) : swappedStores [.Tuple ts a p] (.Tuple vs c q) env = pure r := by
  have hb := blockK hk
  unfold swS at h
  unfold swappedStores
  simp only [hb, bne_self_eq_false, Bool.or_false]
  by_cases h1 : (!(ts.length == 2 || ts.length == 3) || vs.length != ts.length) = true
  · rw [if_pos h1] at h
    cases h
    simp only [h1]
    rfl
  · rw [if_neg h1] at h
    simp only [h1]
    have h0 : (!(ts.length == 2 || ts.length == 3) || vs.length != ts.length) = false := by simpa using h1
    show (if false = true then (pure none : Sem (Option (List Str))) else if vs.any isStar = true then pure none
      else if ((tgNames env.scope ((ts.head?.map (·.pos.line)).getD 0) ts).length != ts.length || (tgNames env.scope ((ts.head?.map (·.pos.line)).getD 0) ts).eraseDups.length != (tgNames env.scope ((ts.head?.map (·.pos.line)).getD 0) ts).length) = true then pure none
      else if vs.all (foldedForSure 8) = true then pure none
      else if vs.all (constantsAlone 8) = true then (do
        unsupported "assign.tuple-of-constant-expressions:order-of-the-stores"
        pure (some (tgNames env.scope ((ts.head?.map (·.pos.line)).getD 0) ts)))
      else pure (some (tgNames env.scope ((ts.head?.map (·.pos.line)).getD 0) ts))) = pure r
    rw [if_neg Bool.false_ne_true]
    split at h
    · rename_i q; cases h; rw [if_pos q]
    · rename_i q
      rw [if_neg q]
      split at h
      · rename_i q; cases h; rw [if_pos q]
      · rename_i q
        rw [if_neg q]
        split at h
        · rename_i q; cases h; rw [if_pos q]
        · rename_i q
          rw [if_neg q]
          split at h
          · cases h
          · rename_i q; cases h; rw [if_neg q]

/-! ### statements -/
mutual
def chS (c : Cfg) (k : Bk) : S → Stmt → Bool
  | .asg i e, .Assign [.Name x px] v _ => nmB c i x && k.loc x && chE c k e v && (!(isComp v) || isLC v)  && (!(isLC v) || (match v with
      | .ListComp _ _ _ _ => true
      | _ => false))
  | .par i j a b, .Assign [.Tuple [.Name x px, .Name y py] _ _] (.Tuple [p, q] _ _) _ => nmB c i x && k.loc x && nmB c j y && k.loc y && i != j && !(isStar p) && !(isStar q) && chE c k a p && chE c k b q &&
      (match swS k.sc [.Name x px, .Name y py] [p, q] with
        | some (some r) => r == [x, y] && k.isLoc x && k.isLoc y
        | some none => true
        | none => false)
  | .par3 i j l a b d, .Assign [.Tuple [.Name x px, .Name y py, .Name z pz] _ _] (.Tuple [p, q, r] _ _) _ => nmB c i x && k.loc x && nmB c j y && k.loc y && nmB c l z && k.loc z && i != j && i != l && j != l && !(isStar p) && !(isStar q) && !(isStar r) && chE c k a p && chE c k b q && chE c k d r &&
      (match swS k.sc [.Name x px, .Name y py, .Name z pz] [p, q, r] with
        | some (some r) => r == [x, y, z] && k.isLoc x && k.isLoc y && k.isLoc z
        | some none => true
        | none => false)
  | .sub a b e, .Assign [.Subscript o i _] v _ => !(isSlice i) && chE c k a o && chE c k b i && chE c k e v
  | .aug i e, .AugAssign (.Name x _) .Add v _ => nmB c i x && k.loc x && chE c k e v
  | .append i e, .Expr (.Call (.Attribute (.Name x _) n ap) [z] [] p) _ => nmB c i x && k.vis x && !(x == ("__debug__" : Str)) && !(x == ("__classdict__" : Str)) && n == ("append" : Str) && ap.endLine == p.line && !(isStar z) && chE c k e z
  | .ex e, .Expr v _ => !(isComp v) && chE c k e v
  | .ite e a b, .If x p q _ => !(isIte x) && chE c k e x && chSs c k a p && chSs c k b q
  | .loop t i b, .For tg iter body [] _ => !(isSet iter) && chTg c k t tg && chI c k i iter && chSs c k b body
  | .while _ e b, .While x body [] _ => !(isIte x) && chE c k e x && chSs c k b body
  | .ret e, .Return (some v) _ => chE c k e v
  | .retN, .Return none _ => true
  | .pass, .Pass _ => true
  | .never, _ => true
  | _, _ => false
def chSs (c : Cfg) (k : Bk) : Ss → List Stmt → Bool
  | .nil, [] => true
  | .cons s r, x :: xs => chS c k s x && chSs c k r xs
  | _, _ => false
end
section
variable {T : Tab} {γ : Nat → Addr} {c : Cfg} {b : Nat} {E : XK}
theorem lc_fs {X : Cx} {st : Stmt} {f f' : Env → List Cell → R Fl} (h : PS X st (tS X.K γ E b f)) (e : f = f') : PS X st (tS X.K γ E b f') := e ▸ h
theorem lc_fss {X : Cx} {st : List Stmt} {f f' : Env → List Cell → R Fl} (h : PSs X st (tS X.K γ E b f)) (e : f = f') : PSs X st (tS X.K γ E b f') := e ▸ h
theorem isLoc_ok {k : Bk} {Wx : WX} {X : Cx} (g : Good T γ c k Wx X) {x : Str} (h : k.isLoc x = true) : X.env.scope.names.lookup x = some .local := by
  unfold Bk.isLoc at h
  rw [g.sc]
  split at h
  · assumption
  · cases h
theorem ps_own {X : Cx} {x : Str} (h : X.N.Nodup) {i j : Nat} {y : Str} (hi : X.N[i]? = some x) (hj : X.N[j]? = some y) (hij : i ≠ j) : True := trivial
mutual
theorem chS_ok : ∀ (s : S) {k : Bk} {X : Cx} {st : Stmt}, Good T γ c k (wx E) X → PassesOwn (model X.prog X.w) X.A X.env X.xe → chS c k s st = true → PS X st (tS X.K γ E b (ex T b s))
  | .asg i e, k, X, st, g, hp, h => by
    unfold chS at h
    split at h <;> first | (cases h; done) | (rename_i heq; cases heq)
    rename_i x px v pos
    simp only [Bool.and_eq_true] at h
    obtain ⟨⟨⟨⟨h0, h1⟩, h2⟩, h3⟩, h4⟩ := h
    have ok := chE_ok (b := b) e g h2
    obtain ⟨l1, l2⟩ := g.loc h1
    refine lc_fs (f := fun ρ m => (ev T b e ρ m).bind fun w m1 => .ok (.nx (ρ.set i (some w))) m1) ?_ (by funext ρ m; rw [ex])
    by_cases hc : isComp v = true
    · cases v with
      | ListComp elt gs scope vp =>
        by_cases hsw : (X.env.kindOf x == some .local && px.line == vp.line && !(scope.names.any fun (n, k) => n == x && (k == .local || k == .cell))) = true
        · obtain ⟨te, q1, q2, q3⟩ := ok.lc rfl
          have hl : X.env.scope.names.lookup x = some .local := by
            simp only [Bool.and_eq_true] at hsw
            exact eq_of_beq hsw.1.1
          exact ps_asgW (q3 i x px pos (g.nm h0) hl (by rw [sw_lc (by rw [g.sc]; exact g.kind), hsw])) q1
        · exact ps_asgW (ps_set g.nd (g.nm h0) l1 ok.pe (by rw [sw_lc (by rw [g.sc]; exact g.kind)]; rw [Bool.eq_false_iff.mpr hsw]) l2) fun _ _ _ q => q
      | _ => simp [isComp, isLC] at h3 hc
    · exact ps_asgW (ps_set g.nd (g.nm h0) l1 ok.pe (sw_no (by simpa using hc)) l2) fun _ _ _ q => q
  | .par i j a d, k, X, st, g, hp, h => by
    unfold chS at h
    split at h <;> first | (cases h; done) | (rename_i heq; cases heq)
    rename_i x px y py kt pt p q k2 pt2 pos
    simp only [Bool.and_eq_true] at h
    obtain ⟨⟨⟨⟨⟨⟨⟨⟨⟨h0, h1⟩, h2⟩, h3⟩, h4⟩, h5⟩, h6⟩, h7⟩, h8⟩, h9⟩ := h
    have oka := chE_ok (b := b) a g h7
    have okb := chE_ok (b := b) d g h8
    have ha : PA X [p, q] (tCons (tW X.K γ (wx E) b (ev T b a)) (tCons (tW X.K γ (wx E) b (ev T b d)) tNil)) := pa_cons oka.pe (pa_cons okb.pe pa_nil (star_no q [] X.env (not_t h6))) (star_no p [q] X.env (not_t h5))
    obtain ⟨l1, l2⟩ := g.loc h1
    obtain ⟨l3, l4⟩ := g.loc h3
    have hij : i ≠ j := by simpa using h4
    refine lc_fs (f := parF i j (ev T b a) (ev T b d)) ?_ (by funext ρ m; first | (rw [ex]; done) | (rw [ex]; rfl))
    split at h9
    · rename_i r hr
      simp only [Bool.and_eq_true] at h9
      obtain ⟨⟨e1, e2⟩, e3⟩ := h9
      rw [eq_of_beq e1, ← g.sc] at hr
      exact ps_parW (ps_par g.calm g.nd (g.nm h0) (g.nm h2) hij (isLoc_ok g e2) (isLoc_ok g e3) ha (swS_ok (by rw [g.sc]; exact g.kind) hr) rfl) fun _ _ _ q => q
    · rename_i hr
      rw [← g.sc] at hr
      exact ps_parUW (ps_asg (pe_tup ha) (pg_tup g.calm (pgs_cons (pg_name g.nd (g.nm h0) l1 l2) (pgs_cons (pg_name g.nd (g.nm h2) l3 l4) pgs_nil rfl) rfl) rfl rfl) rfl (swS_ok (by rw [g.sc]; exact g.kind) hr) rfl)
    · cases h9
  | .par3 i j l a d e, k, X, st, g, hp, h => by
    unfold chS at h
    split at h <;> first | (cases h; done) | (rename_i heq; cases heq)
    rename_i x px y py z pz kt pt p q r k2 pt2 pos
    simp only [Bool.and_eq_true] at h
    obtain ⟨⟨⟨⟨⟨⟨⟨⟨⟨⟨⟨⟨⟨⟨⟨h0, h1⟩, h2⟩, h3⟩, h2'⟩, h3'⟩, h4⟩, h4'⟩, h4''⟩, h5⟩, h6⟩, h6'⟩, h7⟩, h8⟩, h8'⟩, h9⟩ := h
    have oka := chE_ok (b := b) a g h7
    have okb := chE_ok (b := b) d g h8
    have okc := chE_ok (b := b) e g h8'
    have ha : PA X [p, q, r] (tCons (tW X.K γ (wx E) b (ev T b a)) (tCons (tW X.K γ (wx E) b (ev T b d)) (tCons (tW X.K γ (wx E) b (ev T b e)) tNil))) := pa_cons oka.pe (pa_cons okb.pe (pa_cons okc.pe pa_nil (star_no r [] X.env (not_t h6'))) (star_no q [r] X.env (not_t h6))) (star_no p [q, r] X.env (not_t h5))
    obtain ⟨l1, l2⟩ := g.loc h1
    obtain ⟨l3, l4⟩ := g.loc h3
    obtain ⟨l5, l6⟩ := g.loc h3'
    have hij : i ≠ j := by simpa using h4
    have hil : i ≠ l := by simpa using h4'
    have hjl : j ≠ l := by simpa using h4''
    refine lc_fs (f := par3F i j l (ev T b a) (ev T b d) (ev T b e)) ?_ (by funext ρ m; first | (rw [ex]; done) | (rw [ex]; rfl))
    split at h9
    · rename_i rr hr
      simp only [Bool.and_eq_true] at h9
      obtain ⟨⟨⟨e1, e2⟩, e3⟩, e4⟩ := h9
      rw [eq_of_beq e1, ← g.sc] at hr
      exact ps_par3W (ps_par3 g.calm g.nd (g.nm h0) (g.nm h2) (g.nm h2') hij hil hjl (isLoc_ok g e2) (isLoc_ok g e3) (isLoc_ok g e4) ha (swS_ok (by rw [g.sc]; exact g.kind) hr) rfl) fun _ _ _ q => q
    · rename_i hr
      rw [← g.sc] at hr
      exact ps_par3UW (ps_asg (pe_tup ha) (pg_tup g.calm (pgs_cons (pg_name g.nd (g.nm h0) l1 l2) (pgs_cons (pg_name g.nd (g.nm h2) l3 l4) (pgs_cons (pg_name g.nd (g.nm h2') l5 l6) pgs_nil rfl) rfl) rfl) rfl rfl) rfl (swS_ok (by rw [g.sc]; exact g.kind) hr) rfl)
    · cases h9
  | .sub a d e, k, X, st, g, hp, h => by
    unfold chS at h
    split at h <;> first | (cases h; done) | (rename_i heq; cases heq)
    simp only [Bool.and_eq_true] at h
    obtain ⟨⟨⟨h0, h1⟩, h2⟩, h3⟩ := h
    exact lc_fs (ps_subW (chE_ok a g h1).pe (chE_ok d g h2).pe (chE_ok e g h3).pe (not_t h0) sw_sub rfl) (by funext ρ m; first | (rw [ex]; done) | (rw [ex]; rfl))
  | .aug i e, k, X, st, g, hp, h => by
    unfold chS at h
    split at h <;> first | (cases h; done) | (rename_i heq; cases heq)
    simp only [Bool.and_eq_true] at h
    obtain ⟨⟨h0, h1⟩, h2⟩ := h
    obtain ⟨l1, l2⟩ := g.loc h1
    exact lc_fs (ps_augW g.nd (g.nm h0) l1 l2 (chE_ok e g h2).pe) (by funext ρ m; first | (rw [ex]; done) | (rw [ex]; rfl))
  | .append i e, k, X, st, g, hp, h => by
    unfold chS at h
    split at h <;> first | (cases h; done) | (rename_i heq; cases heq)
    simp only [Bool.and_eq_true] at h
    obtain ⟨⟨⟨⟨⟨⟨⟨h0, h1⟩, h2⟩, h3⟩, h4⟩, h5⟩, h6⟩, h7⟩ := h
    have ez := eq_of_beq h4
    subst ez
    exact lc_fs (ps_appW h5 (not_t h6) (pe_varW (g.nm h0) (g.vis h1) (not_t h2) (not_t h3)) (chE_ok e g h7).pe) (by funext ρ m; first | (rw [ex]; done) | (rw [ex]; rfl))
  | .ex e, k, X, st, g, hp, h => by
    unfold chS at h
    split at h <;> first | (cases h; done) | (rename_i heq; cases heq)
    simp only [Bool.and_eq_true] at h
    exact lc_fs (ps_exprW (sw_no (not_t h.1)) (chE_ok e g h.2).pe) (by funext ρ m; rw [ex])
  | .ite e p q, k, X, st, g, hp, h => by
    unfold chS at h
    split at h <;> first | (cases h; done) | (rename_i heq; cases heq)
    simp only [Bool.and_eq_true] at h
    obtain ⟨⟨⟨h0, h1⟩, h2⟩, h3⟩ := h
    exact lc_fs (ps_ifW ((chE_ok e g h1).snd h0).pt (chSs_ok p g hp h2) (chSs_ok q g hp h3)) (by funext ρ m; first | (rw [ex]; done) | (rw [ex]; rfl))
  | .loop t i p, k, X, st, g, hp, h => by
    unfold chS at h
    split at h <;> first | (cases h; done) | (rename_i heq; cases heq)
    simp only [Bool.and_eq_true] at h
    obtain ⟨⟨⟨h0, h1⟩, h2⟩, h3⟩ := h
    exact lc_fs (ps_forW hp g.calm (fun z => by cases z) (chI_ok i g h2) (g.pg h1) (chSs_ok p g hp h3) (fsi_no _ X.env (not_t h0))) (by funext ρ m; first | (rw [ex]; done) | (rw [ex]; rfl))
  | .while n e p, k, X, st, g, hp, h => by
    unfold chS at h
    split at h <;> first | (cases h; done) | (rename_i heq; cases heq)
    simp only [Bool.and_eq_true] at h
    obtain ⟨⟨h0, h1⟩, h2⟩ := h
    exact lc_fs (ps_whileW (n := n) hp ((chE_ok e g h1).snd h0).pt (chSs_ok p g hp h2)) (by funext ρ m; rw [ex])
  | .ret e, k, X, st, g, hp, h => by
    unfold chS at h
    split at h <;> first | (cases h; done) | (rename_i heq; cases heq)
    exact lc_fs (ps_retW (chE_ok e g h).pe) (by funext ρ m; rw [ex])
  | .retN, k, X, st, g, hp, h => by
    unfold chS at h
    split at h <;> first | (cases h; done) | (rename_i heq; cases heq)
    exact lc_fs ps_retNW (by funext ρ m; rw [ex])
  | .raise _, k, X, st, g, hp, h => by
    unfold chS at h
    cases h
  | .pass, k, X, st, g, hp, h => by
    unfold chS at h
    split at h <;> first | (cases h; done) | (rename_i heq; cases heq)
    exact lc_fs ps_passW (by funext ρ m; rw [ex])
  | .never, k, X, st, g, hp, h => lc_fs ps_neverW (by funext ρ m; rw [ex])
theorem chSs_ok : ∀ (s : Ss) {k : Bk} {X : Cx} {st : List Stmt}, Good T γ c k (wx E) X → PassesOwn (model X.prog X.w) X.A X.env X.xe → chSs c k s st = true → PSs X st (tS X.K γ E b (exs T b s))
  | .nil, k, X, st, g, hp, h => by
    unfold chSs at h
    split at h <;> first | (cases h; done) | (rename_i heq; cases heq)
    exact lc_fss pss_nilW (by funext ρ m; rw [exs])
  | .cons s r, k, X, st, g, hp, h => by
    unfold chSs at h
    split at h <;> first | (cases h; done) | (rename_i heq; cases heq)
    simp only [Bool.and_eq_true] at h
    refine lc_fss (pss_consW (chS_ok s g hp h.1) (chSs_ok r g hp h.2)) ?_
    funext ρ m
    rw [exs]
    congr 1
    funext fl m1
    cases fl <;> rfl
end
end
end PV
namespace PV
open PySem PySem.Spec PyProof.Rows L2

/-! ### a def's end -/
section
variable {K : PySem.W.Frag} {φ φ' : List (Option Addr)} {H H' : Hp} {m m1 : List Cell}
theorem seqO_ok {α : Type} : ∀ {l : List (Option α)} {r : List α}, seqO l = some r → l = r.map some
  | [], r, h => by cases h; rfl
  | none :: _, r, h => by cases h
  | some a :: l, r, h => by
    obtain ⟨r', h1, h2⟩ := Option.map_eq_some_iff.mp (show (seqO l).map (a :: ·) = some r from h)
    subst h2
    rw [seqO_ok h1]
    rfl
theorem endW_ok (S : SR K φ m H) (x : Ext m.length φ H φ' H') (S' : SR K φ' m1 H') : ∀ (k : Nat) (w : W) (v : V) (d : PyData), endW m1 m.length k w = some d → RW K φ' H' w v → Dv K (hide φ H') v d
  | 0, w, v, d, e, r => by
    cases w with
    | d y => cases e; exact Dv.mono (x.hid_pure S) _ _ r
    | l n => cases e
  | k + 1, w, v, d, e, r => by
    cases w with
    | d y => cases e; exact Dv.mono (x.hid_pure S) _ _ r
    | l i =>
      unfold endW at e
      dsimp only at e
      split at e
      · rename_i hi
        split at e
        · rename_i ws hm
          obtain ⟨ds, hd, rfl⟩ := Option.map_eq_some_iff.mp e
          obtain ⟨a, vs, rfl, ha, hv, rs⟩ := S'.cellAt r hm
          have hn : some a ∉ φ := not_mem_of fun j hj => by
            have hjl : j < m.length := by rw [← S.len]; exact (List.getElem?_eq_some_iff.mp hj).1
            rcases x.ext j _ hj with q | ⟨q, _⟩
            · have := S'.nd j i a q ha
              omega
            · omega
          refine .lst (.inl (.inl (hide_in hv hn))) ?_
          have e2 := seqO_ok hd
          clear hd e hm hv hn ha
          induction rs generalizing ds with
          | nil => cases ds with
            | nil => exact .nil
            | cons _ _ => cases e2
          | cons r1 _ ih => cases ds with
            | nil => cases e2
            | cons d ds =>
              injection e2 with e3 e4
              exact .cons (endW_ok S x S' k _ _ _ e3 r1) (ih ds e4)
        · cases e
      · cases e
theorem finP_ok {γ : Nat → Addr} {Wx : WX} {σ : L2.St} {b : Nat} {w : W} {v : V} {Q : VK} (S : SR K φ m H) (x : Ext m.length φ H φ' H') (S' : SR K φ' m1 H') (r : RW K φ' H' w v) (h : HG K γ Wx σ (RW K) b φ H (finP m m1 w) Q) : Q v H' := by
  unfold finP at h
  cases w with
  | d y => exact h φ H' v (x.pure S) (S.pure x) (Dv.mono (x.hid_pure S) _ _ r)
  | l i =>
    dsimp only at h
    split at h
    · rename_i hi
      refine h φ H' v (x.pure S) (S.pure x) ?_
      obtain ⟨o, ho, hr⟩ := r
      have hi' : i < φ.length := by rw [S.len]; exact hi
      rcases x.ext i _ (List.getElem?_eq_getElem hi') with q | ⟨q, _⟩
      · rw [q] at ho
        exact ⟨o, by rw [List.getElem?_eq_getElem hi']; exact ho, hr⟩
      · omega
    · split at h
      · rename_i d hd
        exact h φ H' v (x.pure S) (S.pure x) (endW_ok S x S' 8 (.l i) v d hd r)
      · exact h.elim
end
/-- what run asks, told of the body -/
theorem run_body {K : PySem.W.Frag} {γ : Nat → Addr} {T : Tab} {f : Fn} {b : Nat} {ws : List W} {m : List Cell} {φ : List (Option Addr)} {H : Hp} {Q : VK} {E : XK} (S : SR K φ m H) (h : HG K γ (wx E) [] (RW K) b φ H (run T f b ws m) Q) :
    ∃ b', HG K γ (wx E) [] (RelF K) b' φ H (exs T b' f.body (startE f ws) m) (QF { nx := fun _ H' => Q .non H', rt := Q, bk := fun _ _ => False, ct := fun _ _ => False }) := by
  unfold run at h
  split at h
  · split at h
    · refine ⟨m.length, ?_⟩
      cases hx : exs T m.length f.body (startE f ws) m with
      | bad => rw [hx] at h; exact h.elim
      | exc c m1 =>
        rw [hx] at h
        intro φ' H' x S'
        exact h φ H' (x.pure S) (S.pure x)
      | ok fl m1 =>
        rw [hx] at h
        intro φ' H' fv x S' r
        cases fl with
        | nx ρ => cases fv with
          | nx σ => exact finP_ok S x S' (w := .d .none) .non h
          | rt v => exact r.elim
        | rt w => cases fv with
          | nx σ => exact r.elim
          | rt v => exact finP_ok S x S' r h
    · refine ⟨b, ?_⟩
      cases hx : exs T b f.body (startE f ws) m with
      | bad => rw [hx] at h; exact h.elim
      | exc c m1 =>
        rw [hx] at h
        exact h
      | ok fl m1 =>
        rw [hx] at h
        intro φ' H' fv x S' r
        cases fl with
        | nx ρ => cases fv with
          | nx σ => exact h φ' H' .non x S' (show RW K φ' H' (.d .none) .non from .non)
          | rt v => exact r.elim
        | rt w => cases fv with
          | nx σ => exact r.elim
          | rt v => exact h φ' H' v x S' r
  · exact h.elim
theorem run_len {T : Tab} {f : Fn} {b : Nat} {ws : List W} {m : List Cell} (h : ws.length ≠ f.np) : run T f b ws m = .bad := by
  unfold run
  rw [if_neg h]
theorem re_start {K : PySem.W.Frag} {φ : List (Option Addr)} {H : Hp} {N : List Str} {f : Fn} {ws : List W} {vs : List V} (hn : f.nn = N.length) (rs : RWs K φ H ws vs) : RE K φ H (startE f ws) (L2.start N vs) := by
  have hl := rs.length
  refine ⟨by simp [startE, L2.start, hn, hl], fun i w e => ?_⟩
  unfold startE at e
  unfold L2.start
  by_cases hi : i < ws.length
  · rw [List.getElem?_append_left (by simpa using hi), List.getElem?_map] at e
    rw [List.getElem?_append_left (by simpa [← hl] using hi), List.getElem?_map]
    obtain ⟨w', h1, h2⟩ := Option.map_eq_some_iff.mp e
    cases h2
    obtain ⟨v, hv, r⟩ := rs.get h1
    exact ⟨v, by rw [hv]; rfl, r⟩
  · rw [List.getElem?_append_right (by simpa using hi)] at e
    rw [List.getElem?_replicate] at e
    split at e <;> cases e

/-! ### a def -/
structure Df where
  x : Str
  st : Stmt
  N : List Str
  f : Fn
def kOf (sc : Scope) : Bk := ⟨sc, fun _ => true⟩
def fnB (c : Cfg) (f : Fn) (st : Stmt) : Bool :=
  (match (defScope st).kind with | .function => true | _ => false) && !(defScope st).isCoroutine && !(defScope st).isGenerator && decide c.N.Nodup && decide (f.np ≤ c.N.length) && (f.nn == c.N.length) &&
    ((c.N.take f.np).all fun x => match (defScope st).names.lookup x with | some .local => true | some .cell => true | _ => false) &&
    ((defScope st).names.all fun y => match y.2 with | .free => false | _ => true) && chSs c (kOf (defScope st)) f.body (defBody st)
theorem fnB_scope {c : Cfg} {f : Fn} {st : Stmt} (h : fnB c f st = true) : FnScope c.N (c.N.take f.np) (defScope st) ∧ f.np ≤ c.N.length ∧ f.nn = c.N.length ∧ chSs c (kOf (defScope st)) f.body (defBody st) = true := by
  unfold fnB at h
  simp only [Bool.and_eq_true, decide_eq_true_eq] at h
  obtain ⟨⟨⟨⟨⟨⟨⟨⟨h0, h1⟩, h2⟩, h3⟩, h4⟩, h5⟩, h6⟩, h7⟩, h8⟩ := h
  refine ⟨⟨?_, not_t h1, not_t h2, h3, ?_, fun x hx => ?_, fun y hy e => ?_⟩, h4, eq_of_beq h5, h8⟩
  · split at h0
    · assumption
    · cases h0
  · rw [List.length_take, Nat.min_eq_left h4]
  · have := List.all_eq_true.mp h6 x hx
    split at this
    · exact .inl (by assumption)
    · exact .inr (by assumption)
    · cases this
  · have := List.all_eq_true.mp h7 y hy
    rw [e] at this
    cases this
/-- what a callee keeps, at its level -/
structure CalleeF (prog : Program) (w : World) (K : PySem.W.Frag) (mg : Str → Option Value) (base : Heap) (T : Tab) (γ : Nat → Addr) (j : Nat) (x : Str) : Prop where
  ex : ∃ (n : Nat) (fa : Addr) (fd : FuncData) (ps : List Str), ps.length = n ∧ (∀ b ws m, ws.length ≠ n → T j b ws m = .bad) ∧ FnOk prog w K mg base (L2.CX prog w) (j + 1) fa fd ps (spT K T γ n j) ∧ mg x = some (.ref fa) ∧ PySem.W.keepIn K (.ref fa) = true ∧ Binds K fd ps [] ∧ (x == ("__debug__" : Str)) = false
def ext (T : Tab) (n : Nat) (f : Fn) : Tab := fun j b ws m => if j = n then run T f b ws m else T j b ws m
theorem ext_same {T : Tab} {n : Nat} {f : Fn} : ext T n f n = run T f := by
  funext b ws m
  unfold ext
  rw [if_pos rfl]
theorem ext_ne {T : Tab} {n j : Nat} {f : Fn} (h : j ≠ n) : ext T n f j = T j := by
  funext b ws m
  unfold ext
  rw [if_neg h]
section
variable {prog : Program} {w : World} {K : PySem.W.Frag} {mg : Str → Option Value} {base : Heap} {γ : Nat → Addr} {gl : List (Str × PyData)}
/-- what the head tells of a def -/
structure FD (K : PySem.W.Frag) (mg : Str → Option Value) (d : Df) : Prop where
  ex : ∃ (fa : Addr) (fd : FuncData), Fun K d.x d.x d.st fa fd ∧ mg d.x = some (.ref fa) ∧ Binds K fd (d.N.take d.f.np) [] ∧ (d.x == ("__debug__" : Str)) = false
theorem def_fn {T : Tab} {nm : List Str} {d : Df} {fa : Addr} {fd : FuncData} (hcal : ∀ j x, nm[j]? = some x → CalleeF prog w K mg base T γ j x) (hblt : ∀ x ∈ blts, mg x = none) (hglo : ∀ x d, gl.lookup x = some d → ∃ u v, mg x = some u ∧ RelV v u ∧ ∀ G, Dv K G v d)
    (h : fnB ⟨d.N, nm, gl⟩ d.f d.st = true) (F : Fun K d.x d.x d.st fa fd) : FnOk prog w K mg base (L2.CX prog w) (nm.length + 1) fa fd (d.N.take d.f.np) (spT K (ext T nm.length d.f) γ d.f.np nm.length) := by
  obtain ⟨S, hnp, hnn, hbody⟩ := fnB_scope h
  have hps : (d.N.take d.f.np).length = d.f.np := by rw [List.length_take, Nat.min_eq_left hnp]
  refine F.okX S (fun vs H Q E q => by rw [hps]; exact q.1) fun cdv A outer s H vs Q E hr q => ?_
  obtain ⟨hvl, φ, m, ws, b, SS, rs, hg⟩ := q
  rw [ext_same] at hg
  obtain ⟨b', hg'⟩ := run_body SS hg
  refine ⟨tS K γ E b' (exs T b' d.f.body), ?_, φ, m, startE d.f ws, SS, re_start hnn rs, hg'⟩
  have g : Good T γ ⟨d.N, nm, gl⟩ (kOf (defScope d.st)) (wx E) (cxOf (L2.CX prog w) prog w K mg base d.N d.x (defScope d.st) fa cdv A outer s H E) := {
    hN := rfl
    nd := S.nd
    sc := rfl
    kind := S.kind
    fn := fun _ _ => rfl
    calm := rfl
    un := by
      have h1 := hr.un
      show (A.deeper (envOfC d.x (defScope d.st) s.heap.objs.size fa cdv)).units + 70 < cLine
      omega
    blt := hblt
    cal := fun j x hj => by
      obtain ⟨n, fa', fd', ps', q1, q2, q3, q4⟩ := (hcal j x hj).ex
      have hjl : j < nm.length := (List.getElem?_eq_some_iff.mp hj).1
      exact ⟨j + 1, n, fa', fd', ps', q1, q2, q3, hr.mono (by omega), q4⟩
    glo := hglo
    tk := takes_of rfl rfl rfl rfl }
  exact chSs_ok d.f.body g (passes_of rfl) hbody
theorem def_ok {T : Tab} {nm : List Str} {d : Df} (hcal : ∀ j x, nm[j]? = some x → CalleeF prog w K mg base T γ j x) (hblt : ∀ x ∈ blts, mg x = none) (hglo : ∀ x d, gl.lookup x = some d → ∃ u v, mg x = some u ∧ RelV v u ∧ ∀ G, Dv K G v d)
    (h : fnB ⟨d.N, nm, gl⟩ d.f d.st = true) (hf : FD K mg d) : CalleeF prog w K mg base (ext T nm.length d.f) γ nm.length d.x := by
  obtain ⟨S, hnp, hnn, hbody⟩ := fnB_scope h
  obtain ⟨fa, fd, F, hm, hb, hd⟩ := hf.ex
  have hps : (d.N.take d.f.np).length = d.f.np := by rw [List.length_take, Nat.min_eq_left hnp]
  exact ⟨d.f.np, fa, fd, d.N.take d.f.np, hps, fun b ws m hl => by rw [ext_same]; exact run_len hl, def_fn hcal hblt hglo h F, hm, F.kp, hb, hd⟩
def tabs : Tab → Nat → List Df → Tab
  | T, _, [] => T
  | T, n, d :: r => tabs (ext T n d.f) (n + 1) r
def progB (gl : List (Str × PyData)) : List Str → List Df → Bool
  | _, [] => true
  | nm, d :: r => fnB ⟨d.N, nm, gl⟩ d.f d.st && progB gl (nm ++ [d.x]) r
theorem prog_ok (hblt : ∀ x ∈ blts, mg x = none) (hglo : ∀ x d, gl.lookup x = some d → ∃ u v, mg x = some u ∧ RelV v u ∧ ∀ G, Dv K G v d) : ∀ (ds : List Df) (T : Tab) (nm : List Str),
    (∀ j x, nm[j]? = some x → CalleeF prog w K mg base T γ j x) → progB gl nm ds = true → (∀ d ∈ ds, FD K mg d) → ∀ j x, (nm ++ ds.map (·.x))[j]? = some x → CalleeF prog w K mg base (tabs T nm.length ds) γ j x
  | [], T, nm, hc, h, hf, j, x, hj => by
    rw [List.map_nil, List.append_nil] at hj
    exact hc j x hj
  | d :: r, T, nm, hc, h, hf, j, x, hj => by
    have h : (fnB ⟨d.N, nm, gl⟩ d.f d.st && progB gl (nm ++ [d.x]) r) = true := h
    simp only [Bool.and_eq_true] at h
    have hd := def_ok hc hblt hglo h.1 (hf d (by simp))
    have hc' : ∀ j x, (nm ++ [d.x])[j]? = some x → CalleeF prog w K mg base (ext T nm.length d.f) γ j x := fun j x hj => by
      by_cases hjl : j < nm.length
      · rw [List.getElem?_append_left hjl] at hj
        obtain ⟨n, fa', fd', ps', q1, q2, q3, q4⟩ := (hc j x hj).ex
        have hne : j ≠ nm.length := by omega
        refine ⟨n, fa', fd', ps', q1, fun b ws m hl => by rw [ext_ne hne]; exact q2 b ws m hl, ?_, q4⟩
        have e : spT K (ext T nm.length d.f) γ n j = spT K T γ n j := by
          unfold spT
          rw [ext_ne hne]
        rw [e]
        exact q3
      · rw [List.getElem?_append_right (by omega)] at hj
        have h0 : j - nm.length = 0 := by
          have := (List.getElem?_eq_some_iff.mp hj).1
          simpa using this
        rw [h0] at hj
        cases hj
        have : j = nm.length := by omega
        subst this
        exact hd
    have e : nm ++ (d :: r).map (·.x) = (nm ++ [d.x]) ++ r.map (·.x) := by simp
    rw [e] at hj
    have := prog_ok hblt hglo r (ext T nm.length d.f) (nm ++ [d.x]) hc' h.2 (fun d' hd' => hf d' (by simp [hd'])) j x hj
    rw [List.length_append, List.length_singleton] at this
    exact this
def T0 : Tab := fun _ _ _ _ => .bad
def tabOf (ds : List Df) : Tab := tabs T0 0 ds
end

/-! ### the end -/
/-- a law's own wish: nothing is let out -/
theorem fnOk_none {P : Program} {w : World} {K : PySem.W.Frag} {mg : Str → Option Value} {base : Heap} {k : Nat} {f : Addr} {fd : FuncData} {ps : List Str} {sp : Sp} (F : FnOk P w K mg base (L2.CX P w) k f fd ps sp) :
    FnOk P w K mg base CX0 k f fd ps (fun vs H Q _ => sp vs H Q E0) :=
  ⟨fun vs H Q E q => F.len vs H Q E0 q, fun A outer s H args us vs Q E hr e0 hb r q => codeAny_mono (F.run A outer s H args us vs Q E0 hr e0 hb r q) fun rr s' hq => by
    cases rr with
    | error e =>
      obtain ⟨_, _, _, _, _, _, _, _, _, _, _, _, z⟩ := hq
      exact z.elim
    | ok fl => cases fl <;> exact hq⟩
def faL (xs : List (Str × Stmt)) : List He.Fa := (xs.flatMap fun p => [.glo p.1, .keep p.1]) ++ blts.map .free
def fnL (xs : List (Str × Stmt)) : List He.FnD := xs.map fun p => ⟨(p.1, none), p.1, p.1, defArgs p.2, defBody p.2, defScope p.2⟩
theorem mem_at {α : Type} {l : List α} {a : α} (i : Nat) (h : l[i]? = some a) : a ∈ l := List.mem_of_getElem? h
def BindOk (d : Df) : Prop := ∀ (kV doc pm : Value) (an : Option Addr) (cdv ct : Value) (us : List Value), us.length = (d.N.take d.f.np).length → bindArgs (PySem.W.fnOf d.x d.x (defArgs d.st) (defBody d.st) (defScope d.st) .none kV doc pm an cdv ct) ⟨us, []⟩ = pure ((d.N.take d.f.np).zip us)
section
variable {K : PySem.W.Frag} {h : Heap} {mg : Str → Option Value} {xs : List (Str × Stmt)}
theorem says_fact (c : He.SaysE (faL xs) (fnL xs) K) {f : He.Fa} (hf : f ∈ faL xs) : f.ok K = true := by
  obtain ⟨i, hi⟩ := List.mem_iff_getElem?.mp hf
  exact c.fact i hi
theorem says_fun (X : K.In h) (G : h.Ns mainGlobals mg) (c : He.SaysE (faL xs) (fnL xs) K) {x : Str} {st : Stmt} (hx : (x, st) ∈ xs) : ∃ fd, Fun K x x st (He.ga K x) fd ∧ mg x = some (.ref (He.ga K x)) := by
  have h1 : He.Fa.glo x ∈ faL xs := List.mem_append_left _ (List.mem_flatMap.mpr ⟨_, hx, by simp⟩)
  have h2 : He.Fa.keep x ∈ faL xs := List.mem_append_left _ (List.mem_flatMap.mpr ⟨_, hx, by simp⟩)
  have h3 : (⟨(x, none), x, x, defArgs st, defBody st, defScope st⟩ : He.FnD) ∈ fnL xs := List.mem_map.mpr ⟨_, hx, rfl⟩
  obtain ⟨i, hi⟩ := List.mem_iff_getElem?.mp h3
  obtain ⟨oc, od, osl, kV, doc, pm, an, cdv, ct, l, q⟩ := c.def_ i hi
  exact ⟨_, fun_mk l q (He.keep_ok (says_fact c h2)), He.glo_ok X G (says_fact c h1)⟩
theorem says_free (X : K.In h) (G : h.Ns mainGlobals mg) (c : He.SaysE (faL xs) (fnL xs) K) : ∀ x ∈ blts, mg x = none := fun x hx =>
  He.free_ok X G (says_fact c (List.mem_append_right _ (List.mem_map.mpr ⟨x, hx, rfl⟩)))
theorem says_fd (X : K.In h) (G : h.Ns mainGlobals mg) (c : He.SaysE (faL xs) (fnL xs) K) {d : Df} (hx : (d.x, d.st) ∈ xs) (hb : BindOk d) (hd : (d.x == ("__debug__" : Str)) = false) : FD K mg d := by
  obtain ⟨fd, F, hm⟩ := says_fun X G c hx
  exact ⟨_, fd, F, hm, F.binds hb, hd⟩
/-- all that a law's end asks -/
theorem end_ok {P : Program} {w : World} {ds : List Df} {dl : Df} {fa : Addr} {n : Nat} {x : Str} (X : K.In h) (G : h.Ns mainGlobals mg) (c : He.SaysE (faL xs) (fnL xs) K) (hx : ∀ d ∈ ds, (d.x, d.st) ∈ xs) (hxl : (dl.x, dl.st) ∈ xs) (hb : ∀ d ∈ ds, BindOk d) (hbl : BindOk dl) (hdb : ∀ d ∈ ds, (d.x == ("__debug__" : Str)) = false)
    (hp : progB [] [] ds = true) (hpl : fnB ⟨dl.N, ds.map (·.x), []⟩ dl.f dl.st = true) (hN : dl.N.take dl.f.np = [x]) (hnp : dl.f.np = 1) (hfa : mg dl.x = some (.ref fa))
    (hpure : ∀ ns : List Int, ns.length ≤ n → ∃ m, run (tabOf ds) dl.f 0 [.d (.list (ns.map .int))] [] = .ok (.d (.bool true)) m) :
    ∃ (K : PySem.W.Frag) (fd : FuncData) (sp : Sp), K.In h ∧ (∀ (s : Shared) (u : Value), BindsTo s fd ⟨[u], []⟩ [(x, u)]) ∧
        (∀ (H : Hp) (a : Addr) (ns : List Int), ns.length ≤ n → Only H → SqL K H a (ns.map V.int) → sp [.ref a] H (fun v _ => v = .bl true) fun _ _ _ => False) ∧
        ∀ base : Heap, K.In base → base.Ns mainGlobals mg → FnOk P w K mg base CX0 (ds.length + 1) fa fd [x] sp := by
  obtain ⟨fd, F, hm⟩ := says_fun X G c hxl
  rw [hm] at hfa
  cases hfa
  have bb := F.binds hbl
  rw [hN] at bb
  have hlen : (ds.map (·.x)).length = ds.length := List.length_map _
  refine ⟨K, fd, fun vs H Q _ => spT K (ext (tabOf ds) (ds.map (·.x)).length dl.f) (fun _ => 0) dl.f.np (ds.map (·.x)).length vs H Q E0, X, fun s u => ?_, fun H a ns hns hO hS => ?_, fun base KB GB => ?_⟩
  · obtain ⟨oc, od, kV, doc, pm, an, cdv, ct, osl, rfl, lk, hcd⟩ := F.ex
    have := hbl kV doc pm an cdv ct [u] (by rw [hN]; rfl)
    rw [hN] at this
    exact .of_eq this
  · obtain ⟨m, hr⟩ := hpure ns hns
    refine ⟨by rw [hnp]; rfl, [], [], [.d (.list (ns.map .int))], 0, ⟨fun i j a h1 => by simp at h1, rfl, fun i c h => by simp at h⟩, .cons ?_ .nil, ?_⟩
    · have hh : hide [] H = H := by funext a; unfold hide; rw [if_neg (by simp)]
      show Dv K (hide [] H) (.ref a) (.list (ns.map .int))
      rw [hh]
      refine .lst hS ?_
      clear hS hns hr
      induction ns with
      | nil => exact .nil
      | cons i r ih => exact .cons (.int i) ih
    · rw [ext_same, hr]
      intro φ' H' v _ _ r
      exact (show Dv K (hide φ' H') v (.bool true) from r).ebl
  · have hcal := prog_ok (prog := P) (w := w) (K := K) (mg := mg) (base := base) (γ := fun _ => 0) (gl := []) (says_free X G c) (fun x d h => by cases h) ds T0 [] (fun j x hj => by simp at hj) hp (fun d hd => says_fd X G c (hx d hd) (hb d hd) (hdb d hd))
    have hF := def_fn (prog := P) (w := w) (base := base) (γ := fun _ => 0) (T := tabOf ds) (nm := ds.map (·.x)) (d := dl) (gl := []) (fun j x hj => hcal j x (by simpa using hj)) (says_free X G c) (fun x d h => by cases h) hpl F
    rw [hN] at hF
    have := fnOk_none hF
    rw [hlen] at this ⊢
    exact this
end
end PV
namespace PV
open PySem PySem.Spec PyProof.Rows L2

/-! ### the evaluator without a store -/
inductive RQ (α : Type) where
  | ok (a : α) | exc (c : Nat) | bad
def RQ.bind {α β : Type} (r : RQ α) (f : α → RQ β) : RQ β := match r with
  | .ok a => f a
  | .exc c => .exc c
  | .bad => .bad
def RQ.nox {α : Type} (r : RQ α) : RQ α := match r with
  | .ok a => .ok a
  | .exc _ => .bad
  | .bad => .bad
def ofP {α : Type} : Option α → RQ α
  | some a => .ok a
  | none => .bad
/-- where a value lies: data; an own cell; data or a cell of a caller's -/
inductive Fg where
  | d | own | arg
def isL : PyData → Bool
  | .list _ => true
  | _ => false
abbrev VP := Fg × PyData
/-- the value is data -/
def dP (v : VP) : RQ PyData := match v.1 with
  | .d => .ok v.2
  | _ => if isL v.2 then .bad else .ok v.2
abbrev EnvP := List (Option VP)
def getP (ρ : EnvP) (i : Nat) : RQ VP := match ρ[i]? with
  | some (some v) => .ok v
  | _ => .bad
def boolP (v : VP) : RQ Bool := match v.2 with
  | .bool b => .ok b
  | _ => .bad
def intP (v : VP) : RQ Int := match v.2 with
  | .int b => .ok b
  | _ => .bad
def wipeP (ρ : EnvP) : List Nat → EnvP
  | [] => ρ
  | v :: vs => (wipeP ρ vs).set v none
def tgP : Tg → PyData → EnvP → Option EnvP
  | .name i, x, ρ => some (ρ.set i (some (.d, x)))
  | .pair i j, .tuple [x, y], ρ => some ((ρ.set i (some (.d, x))).set j (some (.d, y)))
  | _, _, _ => none
def srcP : PyData → Option (List PyData)
  | .list xs => if xs.length ≤ lim then some xs else none
  | .tuple xs => some xs
  | _ => none
def ixP : PyData → PyData → Option PyData
  | .list xs, .int i => atI xs i
  | .tuple xs, .int i => atI xs i
  | _, _ => none
def isQ : PyData → Bool
  | .list _ => true
  | .tuple _ => true
  | _ => false
def flP (f : PyData → RQ (List PyData)) : List PyData → RQ (List PyData)
  | [] => .ok []
  | x :: r => (f x).bind fun ys => (flP f r).bind fun zs => .ok (ys ++ zs)
def dsP : List VP → RQ (List PyData)
  | [] => .ok []
  | v :: r => (dP v).bind fun x => (dsP r).bind fun xs => .ok (x :: xs)
def notOwn (v : VP) : RQ VP := match v.1 with
  | .own => .bad
  | _ => .ok v
abbrev TabP := Nat → List PyData → RQ PyData
section
variable (T : TabP)
mutual
def evP : E → EnvP → RQ VP
  | .cst x, _ => .ok (.d, x)
  | .var i, ρ => getP ρ i
  | .glob _ d, _ => .ok (.d, d)
  | .tup es, ρ => (evsP es ρ).bind fun vs => (dsP vs).bind fun xs => ofP ((ssz xs).map fun xs => (.d, .tuple xs))
  | .lst es, ρ => (evsP es ρ).bind fun vs => (dsP vs).bind fun xs => ofP ((ssz xs).map fun xs => (.d, .list xs))
  | .lstM es, ρ => (evsP es ρ).bind fun vs => (dsP vs).bind fun xs => ofP ((ssz xs).map fun xs => (.own, .list xs))
  | .bop o x y, ρ => (evP x ρ).bind fun u => (evP y ρ).bind fun v => (dP u).bind fun u => (dP v).bind fun v => ofP ((binD o u v).map fun z => (.d, z))
  | .uop o x, ρ => (evP x ρ).bind fun u => (dP u).bind fun u => ofP ((uopD o u).map fun z => (.d, z))
  | .cmp o x y, ρ => (evP x ρ).bind fun u => (evP y ρ).bind fun v => ofP ((cmpD o u.2 v.2).map fun c => (.d, .bool c))
  | .chn o p x y z, ρ => (evP x ρ).bind fun u => (evP y ρ).bind fun v => (ofP (cmpD o u.2 v.2)).bind fun c => if c then (evP z ρ).bind fun w => ofP ((cmpD p v.2 w.2).map fun c => (.d, .bool c)) else .ok (.d, .bool false)
  | .and x y, ρ => (evP x ρ).bind fun u => (boolP u).bind fun c => if c then (evP y ρ).bind fun v => (boolP v).bind fun d => .ok (.d, .bool d) else .ok (.d, .bool false)
  | .or x y, ρ => (evP x ρ).bind fun u => (boolP u).bind fun c => if c then .ok (.d, .bool true) else (evP y ρ).bind fun v => (boolP v).bind fun d => .ok (.d, .bool d)
  | .not x, ρ => (evP x ρ).bind fun u => (boolP u).bind fun c => .ok (.d, .bool (!c))
  | .ite c x y, ρ => (evP c ρ).bind fun u => (boolP u).bind fun c => if c then evP x ρ else evP y ρ
  | .call f es, ρ => (evsP es ρ).bind fun vs => (T f (vs.map (·.2))).bind fun x => .ok (.d, x)
  | .bi p x, ρ => (evP x ρ).bind fun u => ofP ((biD p u.2).map fun z => (.d, z))
  | .isi x t, ρ => (evP x ρ).bind fun u => .ok (.d, .bool (isiD t u.2))
  | .isiTL x, ρ => (evP x ρ).bind fun u => .ok (.d, .bool (isiD .tuple u.2 || isiD .list u.2))
  | .lrng x, ρ => (evP x ρ).bind fun u => (intP u).bind fun i => ofP ((rngD i).map fun xs => (.d, .list xs))
  | .trng x, ρ => (evP x ρ).bind fun u => (intP u).bind fun i => ofP ((rngD i).map fun xs => (.d, .tuple xs))
  | .listM x, ρ => (evP x ρ).bind fun u => (match biD .list u.2 with
      | some (.list xs) => .ok (.own, .list xs)
      | _ => .bad)
  | .mt k x y, ρ => (evP x ρ).bind fun u => if isQ u.2 then (evP y ρ).bind fun v => ofP ((mtD k u.2 v.2).map fun z => (.d, z)) else .bad
  | .ix x y, ρ => (evP x ρ).bind fun u => (evP y ρ).bind fun v => (dP v).bind fun v => ofP ((ixP u.2 v).map fun z => (.d, z))
  | .sl x lo hi, ρ => (evP x ρ).bind fun u => (evoP lo ρ).bind fun l => (evoP hi ρ).bind fun h => ofP ((slD u.2 l h).map fun z => (.d, z))
  | .comp e t i c own, ρ => (eviP i ρ).bind fun xs => (flP (fun x => (ofP (tgP t x (wipeP ρ own))).bind fun ρ' => ((evcP c ρ').bind fun k => if k then (evP e ρ').bind fun v => (dP v).bind fun y => .ok [y] else .ok []).nox) xs).bind fun l => ofP ((ssz l).map fun l => (.d, .list l))
  | .comp2 e t i c t1 i1 c1 own own1, ρ => (eviP i ρ).bind fun xs => (flP (fun x => (ofP (tgP t x (wipeP ρ own))).bind fun ρ' => ((evcP c ρ').bind fun k => if k then (forP1 i1 ρ').bind fun ys =>
        flP (fun y => (ofP (tgP t1 y (wipeP ρ' own1))).bind fun ρ2 => (evcP c1 ρ2).bind fun k => if k then (evP e ρ2).bind fun v => (dP v).bind fun y => .ok [y] else .ok []) ys else .ok []).nox) xs).bind fun l => ofP ((ssz l).map fun l => (.d, .list l))
def evsP : Es → EnvP → RQ (List VP)
  | .nil, _ => .ok []
  | .cons e r, ρ => (evP e ρ).bind fun w => (evsP r ρ).bind fun ws => .ok (w :: ws)
  | .star e r, ρ => (evP e ρ).bind fun w => (match w.2 with
      | .tuple xs => (evsP r ρ).bind fun ws => .ok (xs.map (fun x => (Fg.d, x)) ++ ws)
      | .list xs => (evsP r ρ).bind fun ws => .ok (xs.map (fun x => (Fg.d, x)) ++ ws)
      | _ => .bad)
def evoP : Oe → EnvP → RQ (Option Int)
  | .no, _ => .ok none
  | .so e, ρ => (evP e ρ).bind fun w => (intP w).bind fun i => .ok (some i)
def evcP : Oe → EnvP → RQ Bool
  | .no, _ => .ok true
  | .so e, ρ => (evP e ρ).bind fun w => boolP w
def eviP : It → EnvP → RQ (List PyData)
  | .ex e, ρ => (evP e ρ).bind fun w => ofP (srcP w.2)
  | .rng e, ρ => (evP e ρ).bind fun w => (intP w).bind fun i => ofP (rngD i)
  | .enum _, _ => .bad
  | .zip _ _, _ => .bad
/-- a source that may not be an own cell -/
def forP1 : It → EnvP → RQ (List PyData)
  | .ex e, ρ => (evP e ρ).bind fun w => (notOwn w).bind fun w => ofP (srcP w.2)
  | .rng e, ρ => (evP e ρ).bind fun w => (intP w).bind fun i => ofP (rngD i)
  | .enum _, _ => .bad
  | .zip _ _, _ => .bad
end
end
/-! ### statements -/
inductive FlP where
  | nx (ρ : EnvP) | rt (v : VP)
def isFresh : E → Bool
  | .lstM _ => true
  | .listM _ => true
  | _ => false
/-- what may be stored at a name -/
def stP (e : E) (v : VP) : RQ VP := match v.1 with
  | .own => if isFresh e then .ok v else .bad
  | _ => .ok v
def forP (f : EnvP → PyData → RQ FlP) : List PyData → EnvP → RQ FlP
  | [], ρ => .ok (.nx ρ)
  | x :: r, ρ => (f ρ x).bind fun fl => (match fl with
    | .nx ρ' => forP f r ρ'
    | .rt v => .ok (.rt v))
def whlP (c : EnvP → RQ Bool) (f : EnvP → RQ FlP) : Nat → EnvP → RQ FlP
  | 0, _ => .bad
  | k + 1, ρ => (c ρ).bind fun b => if b then (f ρ).bind fun s => (match s with
    | .nx ρ' => whlP c f k ρ'
    | .rt v => .ok (.rt v)) else .ok (.nx ρ)
def setP (i : Int) (x : PyData) : PyData → Option PyData
  | .list xs => (ixN xs.length i).map fun j => .list (xs.set j x)
  | _ => none
def pushP (x : PyData) : PyData → Option PyData
  | .list xs => if xs.length ≤ lim then some (.list (xs ++ [x])) else none
  | _ => none
section
variable (T : TabP)
mutual
def exP : S → EnvP → RQ FlP
  | .asg i e, ρ => (evP T e ρ).bind fun v => (stP e v).bind fun v => .ok (.nx (ρ.set i (some v)))
  | .par i j a b, ρ => (evP T a ρ).bind fun u => (stP a u).bind fun u => (evP T b ρ).bind fun v => (stP b v).bind fun v => .ok (.nx ((ρ.set i (some u)).set j (some v)))
  | .par3 i j k a b c, ρ => (evP T a ρ).bind fun u => (stP a u).bind fun u => (evP T b ρ).bind fun v => (stP b v).bind fun v => (evP T c ρ).bind fun w => (stP c w).bind fun w => .ok (.nx (((ρ.set i (some u)).set j (some v)).set k (some w)))
  | .sub a b e, ρ => (match a with
    | .var i => (evP T e ρ).bind fun w => (dP w).bind fun x => (getP ρ i).bind fun u => (evP T b ρ).bind fun v => (intP v).bind fun k => (match u.1 with
      | .own => (ofP (setP k x u.2)).bind fun y => .ok (.nx (ρ.set i (some (.own, y))))
      | _ => .bad)
    | _ => .bad)
  | .aug i e, ρ => (getP ρ i).bind fun u => (intP u).bind fun i0 => (evP T e ρ).bind fun v => (intP v).bind fun j => .ok (.nx (ρ.set i (some (.d, .int (i0 + j)))))
  | .append i e, ρ => (getP ρ i).bind fun u => (match u.1 with
      | .own => (evP T e ρ).bind fun w => (dP w).bind fun x => (ofP (pushP x u.2)).bind fun y => .ok (.nx (ρ.set i (some (.own, y))))
      | _ => .bad)
  | .ex e, ρ => (evP T e ρ).bind fun _ => .ok (.nx ρ)
  | .ite c x y, ρ => (evP T c ρ).bind fun u => (boolP u).bind fun c => if c then exsP x ρ else exsP y ρ
  | .loop t i body, ρ => (forP1 T i ρ).bind fun xs => forP (fun ρ x => (ofP (tgP t x ρ)).bind fun ρ' => exsP body ρ') xs ρ
  | .while n c body, ρ => whlP (fun ρ => (evP T c ρ).bind fun w => boolP w) (fun ρ => exsP body ρ) n ρ
  | .ret e, ρ => (evP T e ρ).bind fun w => .ok (.rt w)
  | .retN, _ => .ok (.rt (.d, .none))
  | .raise c, _ => .exc c
  | .pass, ρ => .ok (.nx ρ)
  | .never, _ => .bad
def exsP : Ss → EnvP → RQ FlP
  | .nil, ρ => .ok (.nx ρ)
  | .cons s r, ρ => (exP s ρ).bind fun f => (match f with
      | .nx ρ' => exsP r ρ'
      | .rt w => .ok (.rt w))
end
end
/-- what is handed back: data -/
def rtP (v : VP) : RQ PyData := match v.1 with
  | .arg => if isL v.2 then .bad else .ok v.2
  | _ => .ok v.2
def startP (f : Fn) (xs : List PyData) : EnvP := xs.map (fun x => some (Fg.arg, x)) ++ List.replicate (f.nn - xs.length) none
def runP (T : TabP) (f : Fn) (xs : List PyData) : RQ PyData := if f.pure && xs.length == f.np then (exsP T f.body (startP f xs)).bind fun fl => (match fl with
  | .nx _ => .ok .none
  | .rt v => rtP v) else .bad
def extP (T : TabP) (n : Nat) (f : Fn) : TabP := fun j xs => if j = n then runP T f xs else T j xs
end PV
namespace PV
open PySem PySem.Spec PyProof.Rows L2

/-! ### the evaluator without a store gives what the other gives -/
theorem wsD_map : ∀ xs : List PyData, wsD (xs.map W.d) = some xs
  | [] => rfl
  | x :: r => by
    show (wsD (r.map W.d)).map (x :: ·) = some (x :: r)
    rw [wsD_map r]
    rfl
def relV (m : List Cell) (base : Nat) (v : VP) (w : W) : Prop := match v.1 with
  | .d => w = .d v.2
  | .own => ∃ n xs, w = .l n ∧ base ≤ n ∧ v.2 = .list xs ∧ m[n]? = some (.lst (xs.map .d))
  | .arg => w = .d v.2 ∨ ∃ n xs, w = .l n ∧ n < base ∧ v.2 = .list xs ∧ m[n]? = some (.lst (xs.map .d))
def Sim {α β : Type} (Rel : List Cell → α → β → Prop) (m : List Cell) (r : R β) (rp : RQ α) : Prop := match rp with
  | .ok a => ∃ b g, r = .ok b (m ++ g) ∧ Rel (m ++ g) a b
  | .exc c => ∃ g, r = .exc c (m ++ g)
  | .bad => True
section
variable {m g : List Cell} {base : Nat} {v : VP} {w : W} {x : PyData}
theorem get_app {α : Type} {m g : List α} {n : Nat} {c : α} (h : m[n]? = some c) : (m ++ g)[n]? = some c := by
  rw [List.getElem?_append_left (List.getElem?_eq_some_iff.mp h).1]
  exact h
theorem relV.app (h : relV m base v w) : relV (m ++ g) base v w := by
  obtain ⟨fg, x⟩ := v
  cases fg with
  | d => exact h
  | own => obtain ⟨n, xs, h1, h2, h3, h4⟩ := h; exact ⟨n, xs, h1, h2, h3, get_app h4⟩
  | arg => exact h.imp_right fun ⟨n, xs, h1, h2, h3, h4⟩ => ⟨n, xs, h1, h2, h3, get_app h4⟩
theorem relV.rd (h : relV m base v w) : rdW m w = some v.2 := by
  obtain ⟨fg, x⟩ := v
  have key : ∀ n xs, w = .l n → x = .list xs → m[n]? = some (.lst (xs.map .d)) → rdW m w = some x := fun n xs h1 h3 h4 => by
    subst h1 h3
    simp only [rdW, h4, wsD_map]
    rfl
  cases fg with
  | d => rw [show w = .d x from h]; rfl
  | own => obtain ⟨n, xs, h1, h2, h3, h4⟩ := h; exact key n xs h1 h3 h4
  | arg =>
    rcases h with h | ⟨n, xs, h1, h2, h3, h4⟩
    · rw [show w = .d x from h]; rfl
    · exact key n xs h1 h3 h4
theorem relV.nl (h : relV m base v w) (hl : isL v.2 = false) : w = .d v.2 := by
  obtain ⟨fg, x⟩ := v
  cases fg with
  | d => exact h
  | own => obtain ⟨n, xs, h1, h2, h3, h4⟩ := h; simp only at h3; subst h3; cases hl
  | arg =>
    rcases h with h | ⟨n, xs, h1, h2, h3, h4⟩
    · exact h
    · simp only at h3; subst h3; cases hl
theorem dP_ok (e : dP v = .ok x) (h : relV m base v w) : w = .d x := by
  obtain ⟨fg, y⟩ := v
  cases fg with
  | d => cases e; exact h
  | own =>
    unfold dP at e
    dsimp only at e
    split at e
    · cases e
    · rename_i hl; cases e; exact h.nl (by simpa using hl)
  | arg =>
    unfold dP at e
    dsimp only at e
    split at e
    · cases e
    · rename_i hl; cases e; exact h.nl (by simpa using hl)
theorem dP_noexc {c : Nat} (e : dP v = .exc c) : False := by
  obtain ⟨fg, y⟩ := v
  cases fg <;> (unfold dP at e; dsimp only at e) <;> first | (cases e; done) | (split at e <;> cases e)
theorem relV.bool {c : Bool} (h : relV m base v w) (e : boolP v = .ok c) : w = .d (.bool c) := by
  obtain ⟨fg, y⟩ := v
  cases y <;> first | (cases e; done) | (cases e; exact h.nl rfl)
theorem relV.int {c : Int} (h : relV m base v w) (e : intP v = .ok c) : w = .d (.int c) := by
  obtain ⟨fg, y⟩ := v
  cases y <;> first | (cases e; done) | (cases e; exact h.nl rfl)
end
section
variable {α β α' β' : Type} {Rel : List Cell → α → β → Prop} {Rel' : List Cell → α' → β' → Prop} {m : List Cell} {r : R β} {rp : RQ α} {f : β → List Cell → R β'} {fp : α → RQ α'}
theorem Sim.bind (h : Sim Rel m r rp) (k : ∀ a b g, rp = .ok a → Rel (m ++ g) a b → Sim Rel' (m ++ g) (f b (m ++ g)) (fp a)) : Sim Rel' m (r.bind f) (rp.bind fp) := by
  cases rp with
  | bad => exact trivial
  | exc c =>
    obtain ⟨g, rfl⟩ := h
    exact ⟨g, rfl⟩
  | ok a =>
    obtain ⟨b, g, rfl, hr⟩ := h
    have := k a b g rfl hr
    show Sim Rel' m (f b (m ++ g)) (fp a)
    cases e : fp a with
    | bad => exact trivial
    | exc c =>
      rw [e] at this
      obtain ⟨g2, h2⟩ := this
      exact ⟨g ++ g2, by rw [h2, List.append_assoc]⟩
    | ok a' =>
      rw [e] at this
      obtain ⟨b', g2, h2, h3⟩ := this
      exact ⟨b', g ++ g2, by rw [h2, List.append_assoc], by rw [← List.append_assoc]; exact h3⟩
theorem Sim.ok {a : α} {b : β} (h : Rel m a b) : Sim Rel m (.ok b m) (.ok a) := ⟨b, [], by rw [List.append_nil], by rw [List.append_nil]; exact h⟩
theorem Sim.bad : Sim Rel m r .bad := trivial
/-- a look that needs no store -/
theorem Sim.lookP {γ : Type} {q : RQ γ} {fq : γ → RQ α} (hq : ∀ c, q ≠ .exc c) (k : ∀ y, q = .ok y → Sim Rel m r (fq y)) : Sim Rel m r (q.bind fq) := by
  cases q with
  | ok y => exact k y rfl
  | exc c => exact absurd rfl (hq c)
  | bad => exact trivial
theorem dP_nex {v : VP} (c : Nat) : dP v ≠ .exc c := fun h => dP_noexc h
theorem boolP_nex {v : VP} (c : Nat) : boolP v ≠ .exc c := fun h => by obtain ⟨fg, y⟩ := v; cases y <;> cases h
theorem intP_nex {v : VP} (c : Nat) : intP v ≠ .exc c := fun h => by obtain ⟨fg, y⟩ := v; cases y <;> cases h
theorem ofP_nex {γ : Type} {o : Option γ} (c : Nat) : ofP o ≠ .exc c := fun h => by cases o <;> cases h
theorem ofP_ok {γ : Type} {o : Option γ} {y : γ} (h : ofP o = .ok y) : o = some y := by cases o <;> cases h; rfl
/-- what data gives -/
theorem Sim.data {base : Nat} {o o' : Option PyData} (h : ∀ z, o = some z → o' = some z) : Sim (fun m v w => relV m base v w) m (ofO m (o'.map W.d)) (ofP (o.map fun z => (Fg.d, z))) := by
  cases o with
  | none => exact trivial
  | some z =>
    rw [h z rfl]
    exact Sim.ok (a := (Fg.d, z)) (b := W.d z) rfl
end

/-! ### the names -/
structure EnvR (m : List Cell) (base : Nat) (ρ : Env) (ρp : EnvP) : Prop where
  len : ρ.length = ρp.length
  val : ∀ (i : Nat) v, ρp[i]? = some (some v) → ∃ w, ρ[i]? = some (some w) ∧ relV m base v w
  own : ∀ (i j n : Nat) x y, ρp[i]? = some (some (.own, x)) → ρp[j]? = some (some (.own, y)) → ρ[i]? = some (some (.l n)) → ρ[j]? = some (some (.l n)) → i = j
section
variable {m g : List Cell} {base : Nat} {ρ : Env} {ρp : EnvP} {v : VP} {w : W}
theorem EnvR.app (h : EnvR m base ρ ρp) : EnvR (m ++ g) base ρ ρp := ⟨h.len, fun i v e => let ⟨w, h1, h2⟩ := h.val i v e; ⟨w, h1, h2.app⟩, h.own⟩
theorem set_get {α : Type} {l : List (Option α)} {i j : Nat} {a b : α} (h : (l.set i (some a))[j]? = some (some b)) : (i = j ∧ i < l.length ∧ b = a) ∨ (i ≠ j ∧ l[j]? = some (some b)) := by
  by_cases e : i = j
  · subst e
    by_cases hi : i < l.length
    · rw [List.getElem?_set_self hi] at h
      cases h
      exact .inl ⟨rfl, hi, rfl⟩
    · rw [List.getElem?_eq_none (by simpa using hi)] at h; cases h
  · rw [List.getElem?_set_ne e] at h
    exact .inr ⟨e, h⟩
/-- a name is set; an own cell must be one that no other name has -/
theorem EnvR.set (h : EnvR m base ρ ρp) {i : Nat} (r : relV m base v w) (hf : ∀ x n, v = (.own, x) → w = .l n → ∀ j y, j ≠ i → ρp[j]? = some (some (.own, y)) → ρ[j]? ≠ some (some (.l n))) : EnvR m base (ρ.set i (some w)) (ρp.set i (some v)) where
  len := by simp [h.len]
  val := fun j u e => by
    rcases set_get e with ⟨rfl, hi, rfl⟩ | ⟨hne, e⟩
    · exact ⟨w, List.getElem?_set_self (by rw [h.len]; exact hi), r⟩
    · rw [List.getElem?_set_ne hne]
      exact h.val j u e
  own := fun a c n x y h1 h2 h3 h4 => by
    rcases set_get h1 with ⟨rfl, hi, e1⟩ | ⟨n1, e1⟩ <;> rcases set_get h2 with ⟨rfl, hj, e2⟩ | ⟨n2, e2⟩
    · rfl
    · rcases set_get h3 with ⟨_, _, e3⟩ | ⟨z, _⟩
      · rw [List.getElem?_set_ne n2] at h4
        exact absurd h4 (hf x n e1.symm e3.symm c y (Ne.symm n2) e2)
      · exact absurd rfl z
    · rcases set_get h4 with ⟨_, _, e4⟩ | ⟨z, _⟩
      · rw [List.getElem?_set_ne n1] at h3
        exact absurd h3 (hf y n e2.symm e4.symm a x (Ne.symm n1) e1)
      · exact absurd rfl z
    · rw [List.getElem?_set_ne n1] at h3
      rw [List.getElem?_set_ne n2] at h4
      exact h.own a c n x y e1 e2 h3 h4
theorem EnvR.setD (h : EnvR m base ρ ρp) {i : Nat} {x : PyData} : EnvR m base (ρ.set i (some (.d x))) (ρp.set i (some (.d, x))) := h.set (v := (.d, x)) rfl fun _ _ e => by cases e
theorem EnvR.wipe (h : EnvR m base ρ ρp) : ∀ vs : List Nat, EnvR m base (wipeE ρ vs) (wipeP ρp vs)
  | [] => h
  | v :: vs => by
    have ih := EnvR.wipe h vs
    have key : ∀ {α : Type} {l : List (Option α)} {j : Nat} {b : α}, (l.set v none)[j]? = some (some b) → v ≠ j ∧ l[j]? = some (some b) := fun {α l j b} e => by
      by_cases z : v = j
      · subst z
        by_cases hv : v < l.length
        · rw [List.getElem?_set_self hv] at e; cases e
        · rw [List.getElem?_eq_none (by simpa using hv)] at e; cases e
      · rw [List.getElem?_set_ne z] at e; exact ⟨z, e⟩
    refine ⟨by unfold wipeE wipeP; simp [ih.len], fun i u e => ?_, fun i j n x y h1 h2 h3 h4 => ?_⟩
    · unfold wipeP at e
      obtain ⟨z, e⟩ := key e
      unfold wipeE
      rw [List.getElem?_set_ne z]
      exact ih.val i u e
    · unfold wipeP at h1 h2
      unfold wipeE at h3 h4
      exact ih.own i j n x y (key h1).2 (key h2).2 (key h3).2 (key h4).2
theorem EnvR.tg (h : EnvR m base ρ ρp) {t : Tg} {x : PyData} {ρp' : EnvP} (e : tgP t x ρp = some ρp') : ∃ ρ', tgD t (.d x) ρ = some ρ' ∧ EnvR m base ρ' ρp' := by
  cases t with
  | name i =>
    cases e
    exact ⟨_, rfl, h.setD⟩
  | pair i j =>
    cases x with
    | tuple xs =>
      match xs, e with
      | [d1, d2], e => cases e; exact ⟨_, rfl, h.setD.setD⟩
      | [], e => cases e
      | [_], e => cases e
      | _ :: _ :: _ :: _, e => cases e
    | _ => cases e
end
/-- the table's promise -/
inductive ArgR (m : List Cell) : List W → List PyData → Prop
  | nil : ArgR m [] []
  | cons {w : W} {ws : List W} {x : PyData} {xs : List PyData} : (w = .d x ∨ ∃ n ys, w = .l n ∧ x = .list ys ∧ m[n]? = some (.lst (ys.map .d))) → ArgR m ws xs → ArgR m (w :: ws) (x :: xs)
def TOk (T : Tab) (TP : TabP) : Prop := ∀ f xs, match TP f xs with
  | .ok d => ∀ b ws m, ArgR m ws xs → T f b ws m = .ok (.d d) m
  | .exc c => ∀ b ws m, ArgR m ws xs → T f b ws m = .exc c m
  | .bad => True
inductive relVs (m : List Cell) (base : Nat) : List VP → List W → Prop
  | nil : relVs m base [] []
  | cons {v : VP} {vs : List VP} {w : W} {ws : List W} : relV m base v w → relVs m base vs ws → relVs m base (v :: vs) (w :: ws)
section
variable {m g : List Cell} {base : Nat}
theorem relVs.app {vs : List VP} {ws : List W} (h : relVs m base vs ws) : relVs (m ++ g) base vs ws := by
  induction h with
  | nil => exact .nil
  | cons h1 _ ih => exact .cons h1.app ih
theorem relVs.append {vs vs' : List VP} {ws ws' : List W} (h : relVs m base vs ws) (h' : relVs m base vs' ws') : relVs m base (vs ++ vs') (ws ++ ws') := by
  induction h with
  | nil => exact h'
  | cons h1 _ ih => exact .cons h1 ih
theorem relVs.data : ∀ xs : List PyData, relVs m base (xs.map fun x => (Fg.d, x)) (xs.map .d)
  | [] => .nil
  | x :: r => .cons rfl (relVs.data r)
theorem relVs.arg {vs : List VP} {ws : List W} (h : relVs m base vs ws) : ArgR m ws (vs.map (·.2)) := by
  induction h with
  | nil => exact .nil
  | @cons v vs w ws h1 _ ih =>
    refine .cons ?_ ih
    obtain ⟨fg, x⟩ := v
    cases fg with
    | d => exact .inl h1
    | own => obtain ⟨n, xs, a, _, c, d⟩ := h1; exact .inr ⟨n, xs, a, c, d⟩
    | arg => exact h1.imp_right fun ⟨n, xs, a, _, c, d⟩ => ⟨n, xs, a, c, d⟩
theorem dsP_nex {vs : List VP} (c : Nat) : dsP vs ≠ .exc c := by
  induction vs with
  | nil => intro h; cases h
  | cons v r ih =>
    intro h
    unfold dsP at h
    cases e : dP v with
    | ok x =>
      rw [e] at h
      cases e2 : dsP r with
      | ok xs => simp [RQ.bind, e2] at h
      | exc c' => exact absurd (by simpa [RQ.bind, e2] using h : c' = c) (fun z => ih (z ▸ e2))
      | bad => simp [RQ.bind, e2] at h
    | exc c' => exact dP_nex _ e
    | bad => rw [e] at h; cases h
theorem dsP_ok {vs : List VP} {ws : List W} (h : relVs m base vs ws) : ∀ {xs : List PyData}, dsP vs = .ok xs → ws = xs.map .d := by
  induction h with
  | nil => intro xs e; cases e; rfl
  | @cons v vs w ws h1 _ ih =>
    intro xs e
    unfold dsP at e
    cases e1 : dP v with
    | ok x =>
      rw [e1] at e
      cases e2 : dsP vs with
      | ok ys =>
        have e : (RQ.ok (x :: ys) : RQ (List PyData)) = .ok xs := by simpa [RQ.bind, e2] using e
        cases e
        rw [dP_ok e1 h1, ih e2]
        rfl
      | exc c' => exact absurd e2 (dsP_nex _)
      | bad => simp [RQ.bind, e2] at e
    | exc c' => exact absurd e1 (dP_nex _)
    | bad => rw [e1] at e; cases e
end
end PV
namespace PV
open PySem PySem.Spec PyProof.Rows L2
def SrcR (m : List Cell) (s : Src) (xs : List PyData) : Prop := match s with
  | .d ys => ys = xs
  | .l n => m[n]? = some (.lst (xs.map .d)) ∧ xs.length ≤ lim
section
variable {m g : List Cell} {base : Nat} {s : Src} {xs : List PyData}
theorem SrcR.at (h : SrcR m s xs) (i : Nat) : s.at (m ++ g) i = some (xs[i]?.map .d) := by
  cases s with
  | d ys => rw [show ys = xs from h]; rfl
  | l n =>
    show (match (m ++ g)[n]? with
      | some (.lst ws) => some ws[i]?
      | _ => none) = _
    rw [get_app h.1]
    simp
theorem SrcR.fuel (h : SrcR m s xs) : xs.length < s.fuel := by
  cases s with
  | d ys => rw [show ys = xs from h]; exact Nat.lt_succ_self _
  | l n => have := h.2; show xs.length < lim + 2; omega
theorem src_ok {v : VP} {w : W} (h : relV m base v w) (e : srcP v.2 = some xs) : ∃ s, srcW m w = some s ∧ SrcR m s xs := by
  obtain ⟨fg, x⟩ := v
  have kd : ∀ x, srcP x = some xs → ∃ s, srcW m (.d x) = some s ∧ SrcR m s xs := fun x e => by
    cases x <;> first | (cases e; done) | skip
    · rename_i ys
      unfold srcP at e
      dsimp only at e
      split at e
      · cases e; exact ⟨_, rfl, rfl⟩
      · cases e
    · cases e; exact ⟨_, rfl, rfl⟩
  have kl : ∀ n ys, w = .l n → x = .list ys → m[n]? = some (.lst (ys.map .d)) → ∃ s, srcW m w = some s ∧ SrcR m s xs := fun n ys h1 h3 h4 => by
    subst h1 h3
    unfold srcP at e
    dsimp only at e
    split at e
    · cases e
      exact ⟨.l n, by simp only [srcW, h4], h4, by assumption⟩
    · cases e
  cases fg with
  | d => rw [show w = .d x from h]; exact kd x e
  | own => obtain ⟨n, ys, h1, h2, h3, h4⟩ := h; exact kl n ys h1 h3 h4
  | arg =>
    rcases h with h | ⟨n, ys, h1, h2, h3, h4⟩
    · rw [show w = .d x from h]; exact kd x e
    · exact kl n ys h1 h3 h4
theorem flP_nex {f : PyData → RQ (List PyData)} (hf : ∀ x c, f x ≠ .exc c) : ∀ (xs : List PyData) c, flP f xs ≠ .exc c
  | [], c, h => by cases h
  | x :: r, c, h => by
    unfold flP at h
    cases e : f x with
    | ok ys =>
      rw [e] at h
      cases e2 : flP f r with
      | ok zs => simp [RQ.bind, e2] at h
      | exc c' => exact flP_nex hf r _ e2
      | bad => simp [RQ.bind, e2] at h
    | exc c' => exact hf _ _ e
    | bad => rw [e] at h; cases h
theorem flP_cons {f : PyData → RQ (List PyData)} {x : PyData} {r l : List PyData} (h : flP f (x :: r) = .ok l) : ∃ ys zs, f x = .ok ys ∧ flP f r = .ok zs ∧ l = ys ++ zs := by
  unfold flP at h
  cases e : f x with
  | ok ys =>
    rw [e] at h
    cases e2 : flP f r with
    | ok zs =>
      have h : (RQ.ok (ys ++ zs) : RQ (List PyData)) = .ok l := by simpa [RQ.bind, e2] using h
      cases h
      exact ⟨ys, zs, rfl, rfl, rfl⟩
    | exc c' => simp [RQ.bind, e2] at h
    | bad => simp [RQ.bind, e2] at h
  | exc c' => rw [e] at h; cases h
  | bad => rw [e] at h; cases h
/-- a comprehension's loop -/
theorem fld_sim {step : W → List Cell → R Unit} {stepP : PyData → RQ (List PyData)} (hs : SrcR m s xs)
    (hstep : ∀ (x : PyData) (acc ys : List PyData) (g : List Cell), stepP x = .ok ys → acc.length + ys.length ≤ lim → ∃ g', step (.d x) (m ++ .lst (acc.map .d) :: g) = .ok () (m ++ .lst ((acc ++ ys).map .d) :: g')) :
    ∀ (k i : Nat) (acc l : List PyData) (g : List Cell), xs.length - i < k → flP stepP (xs.drop i) = .ok l → acc.length + l.length ≤ lim → ∃ g', fldN step s k i (m ++ .lst (acc.map .d) :: g) = .ok () (m ++ .lst ((acc ++ l).map .d) :: g')
  | 0, i, acc, l, g, hk, h, hl => absurd hk (Nat.not_lt_zero _)
  | k + 1, i, acc, l, g, hk, h, hl => by
    unfold fldN
    rw [hs.at]
    by_cases hi : i < xs.length
    · rw [List.getElem?_eq_getElem hi]
      rw [List.drop_eq_getElem_cons hi] at h
      obtain ⟨ys, zs, h1, h2, rfl⟩ := flP_cons h
      rw [List.length_append] at hl
      obtain ⟨g1, e1⟩ := hstep xs[i] acc ys g h1 (by omega)
      obtain ⟨g2, e2⟩ := fld_sim hs hstep k (i + 1) (acc ++ ys) zs g1 (by omega) h2 (by rw [List.length_append]; omega)
      refine ⟨g2, ?_⟩
      show (step (.d xs[i]) (m ++ .lst (acc.map .d) :: g)).bind (fun _ m' => fldN step s k (i + 1) m') = _
      rw [e1]
      show fldN step s k (i + 1) (m ++ .lst ((acc ++ ys).map .d) :: g1) = _
      rw [e2, List.append_assoc]
    · rw [List.getElem?_eq_none (by omega)]
      rw [List.drop_eq_nil_of_le (by omega)] at h
      cases h
      exact ⟨g, by simp⟩
theorem push_eq {m g : List Cell} {acc : List PyData} {x : PyData} (h : acc.length < lim) : pushC m.length (.d x) (m ++ .lst (acc.map .d) :: g) = .ok () (m ++ .lst ((acc ++ [x]).map .d) :: g) := by
  unfold pushC
  rw [List.getElem?_append_right (Nat.le_refl _), Nat.sub_self]
  show (if (acc.map W.d).length < lim then R.ok () ((m ++ Cell.lst (acc.map .d) :: g).set m.length (Cell.lst (acc.map .d ++ [.d x]))) else .bad) = _
  rw [if_pos (by simpa using h), List.set_append_right _ _ (Nat.le_refl _), Nat.sub_self]
  simp
theorem fin_eq {m g : List Cell} {l : List PyData} : finC m.length (m ++ .lst (l.map .d) :: g) = .ok (.d (.list l)) (m ++ .dead :: g) := by
  unfold finC
  rw [List.getElem?_append_right (Nat.le_refl _), Nat.sub_self]
  show (match wsD (l.map W.d) with
    | some xs => R.ok (W.d (.list xs)) ((m ++ Cell.lst (l.map .d) :: g).set m.length .dead)
    | none => .bad) = _
  rw [wsD_map, List.set_append_right _ _ (Nat.le_refl _), Nat.sub_self]
  rfl
theorem rq_bind_ok {α β : Type} {r : RQ α} {f : α → RQ β} {b : β} (h : r.bind f = .ok b) : ∃ a, r = .ok a ∧ f a = .ok b := by
  cases r with
  | ok a => exact ⟨a, rfl, h⟩
  | exc c => cases h
  | bad => cases h
theorem rq_nox_ok {α : Type} {r : RQ α} {a : α} (h : r.nox = .ok a) : r = .ok a := by cases r <;> first | exact h | cases h
theorem rq_nox_nex {α : Type} {r : RQ α} {c : Nat} : r.nox ≠ .exc c := by cases r <;> (intro h; cases h)
theorem ofP_bind_nex {α β : Type} {o : Option α} {f : α → RQ β} (h : ∀ a c, f a ≠ .exc c) (c : Nat) : (ofP o).bind f ≠ .exc c := by
  cases o with
  | none => intro z; cases z
  | some a => exact h a c
end
end PV
namespace PV
open PySem PySem.Spec PyProof.Rows L2
abbrev SimV (base : Nat) (m : List Cell) (r : R W) (rp : RQ VP) : Prop := Sim (fun m v w => relV m base v w) m r rp
theorem Sim.ofOB {base : Nat} {m : List Cell} {o o' : Option Bool} (h : ∀ z, o = some z → o' = some z) : SimV base m (ofO m (o'.map fun c => W.d (.bool c))) (ofP (o.map fun c => (Fg.d, PyData.bool c))) := by
  cases o with
  | none => exact trivial
  | some z =>
    rw [h z rfl]
    exact Sim.ok (a := (Fg.d, PyData.bool z)) (b := W.d (.bool z)) rfl
theorem cmpW_eq {base : Nat} {m : List Cell} {o : COp} {u v : VP} {a c : W} (h1 : relV m base u a) (h2 : relV m base v c) : cmpW o m a c = cmpD o u.2 v.2 := by
  unfold cmpW
  rw [h1.rd, h2.rd]
  rfl
theorem relV.isVal {base : Nat} {m : List Cell} {v : VP} {w : W} (h : relV m base v w) : isVal m w = true := by
  obtain ⟨fg, x⟩ := v
  cases fg with
  | d => rw [show w = .d x from h]; rfl
  | own => obtain ⟨n, xs, h1, h2, h3, h4⟩ := h; rw [h1]; simp only [PV.isVal, h4]
  | arg =>
    rcases h with h | ⟨n, xs, h1, h2, h3, h4⟩
    · rw [show w = .d x from h]; rfl
    · rw [h1]; simp only [PV.isVal, h4]
theorem relV.isi {base : Nat} {m : List Cell} {v : VP} {w : W} (h : relV m base v w) (t : Ty) : isiW t w = isiD t v.2 := by
  obtain ⟨fg, x⟩ := v
  cases fg with
  | d => rw [show w = .d x from h]; rfl
  | own => obtain ⟨n, xs, h1, h2, h3, h4⟩ := h; simp only at h3; rw [h1, h3]; cases t <;> rfl
  | arg =>
    rcases h with h | ⟨n, xs, h1, h2, h3, h4⟩
    · rw [show w = .d x from h]; rfl
    · simp only at h3; rw [h1, h3]; cases t <;> rfl
theorem relV.seq {base : Nat} {m : List Cell} {v : VP} {w : W} (h : relV m base v w) (hq : isQ v.2 = true) : isSeqW m w = true := by
  obtain ⟨fg, x⟩ := v
  have kd : ∀ x, isQ x = true → isSeqW m (.d x) = true := fun x hq => by cases x <;> first | rfl | cases hq
  cases fg with
  | d => rw [show w = .d x from h]; exact kd x hq
  | own => obtain ⟨n, xs, h1, h2, h3, h4⟩ := h; rw [h1]; simp only [isSeqW, h4]
  | arg =>
    rcases h with h | ⟨n, xs, h1, h2, h3, h4⟩
    · rw [show w = .d x from h]; exact kd x hq
    · rw [h1]; simp only [isSeqW, h4]
theorem atI_map {xs : List PyData} {i : Int} {z : PyData} (h : atI xs i = some z) : L2.atI (xs.map W.d) i = some (.d z) := by
  unfold L2.atI at h ⊢
  rw [List.length_map]
  obtain ⟨j, h1, h2⟩ := Option.bind_eq_some_iff.mp h
  rw [h1]
  show (xs.map W.d)[j]? = some (.d z)
  rw [List.getElem?_map, h2]
  rfl
theorem relV.ix {base : Nat} {m : List Cell} {v : VP} {w : W} (h : relV m base v w) {d z : PyData} (e : ixP v.2 d = some z) : ixW m w d = some (.d z) := by
  obtain ⟨fg, x⟩ := v
  have kd : ∀ x, ixP x d = some z → ixW m (.d x) d = some (.d z) := fun x e => by
    cases x <;> cases d <;> first | (cases e; done) | skip
    · show (atI _ _).map W.d = _
      rw [show atI _ _ = some z from e]; rfl
    · show (atI _ _).map W.d = _
      rw [show atI _ _ = some z from e]; rfl
  have kl : ∀ n xs, w = .l n → x = .list xs → m[n]? = some (.lst (xs.map .d)) → ixW m w d = some (.d z) := fun n xs h1 h3 h4 => by
    subst h1 h3
    cases d <;> first | (cases e; done) | skip
    simp only [ixW, h4]
    exact atI_map e
  cases fg with
  | d => rw [show w = .d x from h]; exact kd x e
  | own => obtain ⟨n, xs, h1, h2, h3, h4⟩ := h; exact kl n xs h1 h3 h4
  | arg =>
    rcases h with h | ⟨n, xs, h1, h2, h3, h4⟩
    · rw [show w = .d x from h]; exact kd x e
    · exact kl n xs h1 h3 h4
/-! ### comprehensions -/
def cP (t : Tg) (own : List Nat) (fc : EnvP → RQ Bool) (fe : EnvP → RQ VP) (ρ : EnvP) : PyData → RQ (List PyData) := fun x => (ofP (tgP t x (wipeP ρ own))).bind fun ρ' => ((fc ρ').bind fun k => if k then (fe ρ').bind fun v => (dP v).bind fun y => .ok [y] else .ok []).nox
def cP1 (t : Tg) (own : List Nat) (fc : EnvP → RQ Bool) (fe : EnvP → RQ VP) (ρ : EnvP) : PyData → RQ (List PyData) := fun x => (ofP (tgP t x (wipeP ρ own))).bind fun ρ' => (fc ρ').bind fun k => if k then (fe ρ').bind fun v => (dP v).bind fun y => .ok [y] else .ok []
def cP2 (t : Tg) (own : List Nat) (fc : EnvP → RQ Bool) (fi : EnvP → RQ (List PyData)) (t1 : Tg) (own1 : List Nat) (fc1 : EnvP → RQ Bool) (fe : EnvP → RQ VP) (ρ : EnvP) : PyData → RQ (List PyData) := fun x => (ofP (tgP t x (wipeP ρ own))).bind fun ρ' => ((fc ρ').bind fun k => if k then (fi ρ').bind fun ys => flP (cP1 t1 own1 fc1 fe ρ') ys else .ok []).nox
section
variable {base : Nat} {fc fc1 : Env → List Cell → R Bool} {fe : Env → List Cell → R W} {fi fi1 : Env → List Cell → R Src} {fcP fc1P : EnvP → RQ Bool} {feP : EnvP → RQ VP} {fi1P : EnvP → RQ (List PyData)} {m1 : List Cell} {ρ : Env} {ρp : EnvP} {t t1 : Tg} {own own1 : List Nat} {xs : List PyData} {s : Src}
def SC (base : Nat) (fc : Env → List Cell → R Bool) (fcP : EnvP → RQ Bool) : Prop := ∀ (m : List Cell) (ρ : Env) (ρp : EnvP), base ≤ m.length → EnvR m base ρ ρp → Sim (fun _ x y => x = y) m (fc ρ m) (fcP ρp)
def SE (base : Nat) (fe : Env → List Cell → R W) (feP : EnvP → RQ VP) : Prop := ∀ (m : List Cell) (ρ : Env) (ρp : EnvP), base ≤ m.length → EnvR m base ρ ρp → SimV base m (fe ρ m) (feP ρp)
/-- an inner source's cell is a caller's -/
def SI (base : Nat) (fi : Env → List Cell → R Src) (fiP : EnvP → RQ (List PyData)) : Prop := ∀ (m : List Cell) (ρ : Env) (ρp : EnvP), base ≤ m.length → EnvR m base ρ ρp → Sim (fun m xs s => (s = .d xs ∨ ∃ n, s = .l n ∧ n < base ∧ m[n]? = some (.lst (xs.map .d)) ∧ xs.length ≤ lim)) m (fi ρ m) (fiP ρp)
theorem elt_sim (hc : SC base fc fcP) (he : SE base fe feP) {acc ys : List PyData} {g2 : List Cell} (hb : base ≤ m1.length) (er : EnvR (m1 ++ Cell.lst (acc.map .d) :: g2) base ρ ρp)
    (h : ((fcP ρp).bind fun k => if k then (feP ρp).bind fun v => (dP v).bind fun y => RQ.ok [y] else .ok []) = .ok ys) (hlen : acc.length + ys.length ≤ lim) :
    ∃ g', ((fc ρ (m1 ++ Cell.lst (acc.map .d) :: g2)).bind fun k m2 => if k then (fe ρ m2).bind fun v m3 => pushC m1.length v m3 else .ok () m2) = .ok () (m1 ++ Cell.lst ((acc ++ ys).map .d) :: g') := by
  have hb' : base ≤ (m1 ++ Cell.lst (acc.map .d) :: g2).length := by rw [List.length_append]; omega
  obtain ⟨k, k1, k2⟩ := rq_bind_ok h
  have sc := hc _ ρ ρp hb' er
  rw [k1] at sc
  obtain ⟨k', g3, e3, e4⟩ := sc
  subst e4
  cases k with
  | false =>
    cases k2
    refine ⟨g2 ++ g3, ?_⟩
    rw [e3]
    simp [R.bind]
  | true =>
    obtain ⟨v, v1, v2⟩ := rq_bind_ok k2
    obtain ⟨y, y1, y2⟩ := rq_bind_ok v2
    cases y2
    have se := he _ ρ ρp (by rw [List.length_append]; omega) (er.app (g := g3))
    rw [v1] at se
    obtain ⟨w, g4, e5, e6⟩ := se
    have e7 := dP_ok y1 e6
    subst e7
    refine ⟨g2 ++ g3 ++ g4, ?_⟩
    rw [e3]
    show R.bind (fe ρ (m1 ++ Cell.lst (acc.map .d) :: g2 ++ g3)) _ = _
    rw [e5]
    show pushC m1.length (W.d y) (m1 ++ Cell.lst (acc.map .d) :: g2 ++ g3 ++ g4) = _
    have e8 : m1 ++ Cell.lst (acc.map .d) :: g2 ++ g3 ++ g4 = m1 ++ Cell.lst (acc.map .d) :: (g2 ++ g3 ++ g4) := by simp
    rw [e8, push_eq (by simp at hlen; omega)]
/-- from the loop to the whole -/
theorem comp_fin {step : W → List Cell → R Unit} {stepP : PyData → RQ (List PyData)} (r : SrcR m1 s xs) (hn : ∀ x c, stepP x ≠ .exc c)
    (hstep : ∀ (x : PyData) (acc ys : List PyData) (g : List Cell), stepP x = .ok ys → acc.length + ys.length ≤ lim → ∃ g', step (.d x) (m1 ++ Cell.lst (acc.map .d) :: g) = .ok () (m1 ++ Cell.lst ((acc ++ ys).map .d) :: g')) :
    SimV base m1 ((fldS step s (m1 ++ [Cell.lst []])).bind fun _ m2 => finC m1.length m2) ((flP stepP xs).bind fun l => ofP ((ssz l).map fun l => (Fg.d, PyData.list l))) := by
  cases hl : flP stepP xs with
  | bad => exact trivial
  | exc cc => exact absurd hl (flP_nex hn xs cc)
  | ok l =>
    show Sim _ m1 _ (ofP ((ssz l).map fun l => (Fg.d, PyData.list l)))
    by_cases hs : l.length ≤ lim
    · have e1 : ssz l = some l := by unfold ssz; rw [if_pos hs]
      rw [e1, fldS_N]
      obtain ⟨g', hg⟩ := fld_sim r hstep s.fuel 0 [] l [] (by have := r.fuel; omega) hl (by simpa using hs)
      have hg : fldN step s s.fuel 0 (m1 ++ [Cell.lst []]) = .ok () (m1 ++ Cell.lst (l.map .d) :: g') := hg
      rw [hg]
      show Sim _ m1 (finC m1.length (m1 ++ Cell.lst (l.map .d) :: g')) _
      rw [fin_eq]
      exact ⟨_, _, rfl, rfl⟩
    · have e1 : ssz l = none := by unfold ssz; rw [if_neg hs]
      rw [e1]
      exact trivial
theorem comp_sim (hc : SC base fc fcP) (he : SE base fe feP) (h1 : EnvR m1 base ρ ρp) (hb : base ≤ m1.length) (r : SrcR m1 s xs) :
    SimV base m1 ((fldS (cS t own fc fe m1.length ρ) s (m1 ++ [Cell.lst []])).bind fun _ m2 => finC m1.length m2) ((flP (cP t own fcP feP ρp) xs).bind fun l => ofP ((ssz l).map fun l => (Fg.d, PyData.list l))) :=
  comp_fin r (fun x cc => ofP_bind_nex (fun _ _ => rq_nox_nex) cc) fun x acc ys g2 hx hlen => by
    obtain ⟨ρp', q1, q2⟩ := rq_bind_ok hx
    obtain ⟨ρ', t1, er⟩ := (h1.wipe own).tg (ofP_ok q1)
    obtain ⟨g', e⟩ := elt_sim hc he hb (er.app (g := Cell.lst (acc.map .d) :: g2)) (rq_nox_ok q2) hlen
    refine ⟨g', ?_⟩
    unfold cS
    rw [t1]
    show ((fc ρ' (m1 ++ Cell.lst (acc.map .d) :: g2)).bind _).nox = _
    rw [e]
    rfl
theorem comp2_sim (hc : SC base fc fcP) (hi : SI base fi1 fi1P) (hc1 : SC base fc1 fc1P) (he : SE base fe feP) (h1 : EnvR m1 base ρ ρp) (hb : base ≤ m1.length) (r : SrcR m1 s xs) :
    SimV base m1 ((fldS (cS2 t own fc fi1 t1 own1 fc1 fe m1.length ρ) s (m1 ++ [Cell.lst []])).bind fun _ m2 => finC m1.length m2) ((flP (cP2 t own fcP fi1P t1 own1 fc1P feP ρp) xs).bind fun l => ofP ((ssz l).map fun l => (Fg.d, PyData.list l))) :=
  comp_fin r (fun x cc => ofP_bind_nex (fun _ _ => rq_nox_nex) cc) fun x acc ys g2 hx hlen => by
    obtain ⟨ρp', q1, q2⟩ := rq_bind_ok hx
    obtain ⟨ρ', tt, er0⟩ := (h1.wipe own).tg (ofP_ok q1)
    have er := er0.app (g := Cell.lst (acc.map .d) :: g2)
    obtain ⟨k, k1, k2⟩ := rq_bind_ok (rq_nox_ok q2)
    have sc := hc _ ρ' ρp' (by rw [List.length_append]; omega) er
    rw [k1] at sc
    obtain ⟨k', g3, e3, e4⟩ := sc
    subst e4
    unfold cS2
    rw [tt]
    show ∃ g', ((fc ρ' (m1 ++ Cell.lst (acc.map .d) :: g2)).bind _).nox = _
    rw [e3]
    cases k with
    | false =>
      cases k2
      exact ⟨g2 ++ g3, by simp [R.bind, R.nox]⟩
    | true =>
      obtain ⟨zs, z1, z2⟩ := rq_bind_ok k2
      have si := hi _ ρ' ρp' (by simp only [List.length_append]; omega) (er.app (g := g3))
      rw [z1] at si
      obtain ⟨s1, g4, e5, e6⟩ := si
      have r1 : SrcR m1 s1 zs := by
        rcases e6 with rfl | ⟨n, rfl, hn, hm, hl⟩
        · rfl
        · refine ⟨?_, hl⟩
          rw [List.append_assoc, List.append_assoc, List.getElem?_append_left (by omega)] at hm
          exact hm
      obtain ⟨g5, hg⟩ := fld_sim (step := cS1 t1 own1 fc1 fe m1.length ρ') r1 (fun y acc2 ys2 g6 hy hlen2 => by
        obtain ⟨ρp2, p1, p2⟩ := rq_bind_ok hy
        obtain ⟨ρ2, t2, er2⟩ := (er0.wipe own1).tg (ofP_ok p1)
        obtain ⟨g', e⟩ := elt_sim hc1 he hb (er2.app (g := Cell.lst (acc2.map .d) :: g6)) p2 hlen2
        refine ⟨g', ?_⟩
        unfold cS1
        rw [t2]
        exact e) s1.fuel 0 acc ys (g2 ++ g3 ++ g4) (by have := r1.fuel; omega) z2 hlen
      refine ⟨g5, ?_⟩
      show ((fi1 ρ' (m1 ++ Cell.lst (acc.map .d) :: g2 ++ g3)).bind _).nox = _
      rw [e5]
      show (fldS (cS1 t1 own1 fc1 fe m1.length ρ') s1 (m1 ++ Cell.lst (acc.map .d) :: g2 ++ g3 ++ g4)).nox = _
      have e8 : m1 ++ Cell.lst (acc.map .d) :: g2 ++ g3 ++ g4 = m1 ++ Cell.lst (acc.map .d) :: (g2 ++ g3 ++ g4) := by simp
      rw [e8, fldS_N, hg]
      rfl
end
section
variable {T : Tab} {TP : TabP} {b : Nat} {base : Nat}
mutual
theorem ev_sim (ht : TOk T TP) : ∀ (e : E) {m : List Cell} {ρ : Env} {ρp : EnvP}, base ≤ m.length → EnvR m base ρ ρp → SimV base m (ev T b e ρ m) (evP TP e ρp)
  | .cst x, m, ρ, ρp, hb, h => by
    rw [ev, evP]
    exact Sim.ok (a := (Fg.d, x)) (b := W.d x) rfl
  | .var i, m, ρ, ρp, hb, h => by
    rw [ev, evP]
    unfold getP
    split
    · rename_i v hv
      obtain ⟨w, h1, h2⟩ := h.val i v hv
      unfold getV
      rw [h1]
      exact Sim.ok h2
    · exact trivial
  | .glob x d, m, ρ, ρp, hb, h => by
    rw [ev, evP]
    exact Sim.ok (a := (Fg.d, d)) (b := W.d d) rfl
  | .tup es, m, ρ, ρp, hb, h => by
    rw [ev, evP]
    refine (evs_sim ht es hb h).bind fun vs ws g _ r => Sim.lookP dsP_nex fun xs hx => ?_
    rw [dsP_ok r hx, wsD_map]
    show Sim _ _ (ofO _ ((ssz xs).map fun xs => W.d (.tuple xs))) (ofP ((ssz xs).map fun xs => (Fg.d, PyData.tuple xs)))
    cases ssz xs with
    | none => exact trivial
    | some ys => exact Sim.ok (a := (Fg.d, PyData.tuple ys)) (b := W.d (.tuple ys)) rfl
  | .lst es, m, ρ, ρp, hb, h => by
    rw [ev, evP]
    refine (evs_sim ht es hb h).bind fun vs ws g _ r => Sim.lookP dsP_nex fun xs hx => ?_
    rw [dsP_ok r hx, wsD_map]
    show Sim _ _ (ofO _ ((ssz xs).map fun xs => W.d (.list xs))) (ofP ((ssz xs).map fun xs => (Fg.d, PyData.list xs)))
    cases ssz xs with
    | none => exact trivial
    | some ys => exact Sim.ok (a := (Fg.d, PyData.list ys)) (b := W.d (.list ys)) rfl
  | .lstM es, m, ρ, ρp, hb, h => by
    rw [ev, evP]
    refine (evs_sim ht es hb h).bind fun vs ws g _ r => Sim.lookP dsP_nex fun xs hx => ?_
    rw [dsP_ok r hx]
    by_cases hl : xs.length ≤ lim
    · have e : ssz xs = some xs := by unfold ssz; rw [if_pos hl]
      rw [e, if_pos (by simpa using hl)]
      refine ⟨_, [.lst (xs.map .d)], rfl, (m ++ g).length, xs, rfl, ?_, rfl, ?_⟩
      · rw [List.length_append]; omega
      · rw [List.getElem?_append_right (Nat.le_refl _), Nat.sub_self]; rfl
    · have e : ssz xs = none := by unfold ssz; rw [if_neg hl]
      rw [e]
      exact trivial
  | .bop o x y, m, ρ, ρp, hb, h => by
    rw [ev, evP]
    refine (ev_sim ht x hb h).bind fun u w1 g _ r1 => (ev_sim ht y (by rw [List.length_append]; omega) h.app).bind fun v w2 g2 _ r2 => Sim.lookP dP_nex fun d1 e1 => Sim.lookP dP_nex fun d2 e2 => ?_
    rw [dP_ok e1 r1, dP_ok e2 r2]
    exact Sim.data fun z hz => hz
  | .uop o x, m, ρ, ρp, hb, h => by
    rw [ev, evP]
    refine (ev_sim ht x hb h).bind fun u w1 g _ r1 => Sim.lookP dP_nex fun d1 e1 => ?_
    rw [dP_ok e1 r1]
    exact Sim.data fun z hz => hz
  | .cmp o x y, m, ρ, ρp, hb, h => by
    rw [ev, evP]
    refine (ev_sim ht x hb h).bind fun u w1 g _ r1 => (ev_sim ht y (by rw [List.length_append]; omega) h.app).bind fun v w2 g2 _ r2 => ?_
    rw [cmpW_eq r1.app r2]
    exact Sim.ofOB fun z hz => hz
  | .chn o p x y z, m, ρ, ρp, hb, h => by
    rw [ev, evP]
    refine (ev_sim ht x hb h).bind fun u w1 g _ r1 => (ev_sim ht y (by rw [List.length_append]; omega) h.app).bind fun v w2 g2 _ r2 => ?_
    rw [cmpW_eq r1.app r2]
    cases cmpD o u.2 v.2 with
    | none => exact trivial
    | some c =>
      cases c with
      | false => exact Sim.ok (a := (Fg.d, PyData.bool false)) (b := W.d (.bool false)) rfl
      | true =>
        refine (ev_sim ht z (by simp only [List.length_append]; omega) h.app.app).bind fun w w3 g3 _ r3 => ?_
        rw [cmpW_eq r2.app r3]
        exact Sim.ofOB fun z hz => hz
  | .and x y, m, ρ, ρp, hb, h => by
    rw [ev, evP]
    refine (ev_sim ht x hb h).bind fun u w1 g _ r1 => Sim.lookP boolP_nex fun c e1 => ?_
    rw [r1.bool e1]
    cases c with
    | false => exact Sim.ok (a := (Fg.d, PyData.bool false)) (b := W.d (.bool false)) rfl
    | true =>
      refine (ev_sim ht y (by rw [List.length_append]; omega) h.app).bind fun v w2 g2 _ r2 => Sim.lookP boolP_nex fun d e2 => ?_
      rw [r2.bool e2]
      exact Sim.ok (a := (Fg.d, PyData.bool d)) (b := W.d (.bool d)) rfl
  | .or x y, m, ρ, ρp, hb, h => by
    rw [ev, evP]
    refine (ev_sim ht x hb h).bind fun u w1 g _ r1 => Sim.lookP boolP_nex fun c e1 => ?_
    rw [r1.bool e1]
    cases c with
    | true => exact Sim.ok (a := (Fg.d, PyData.bool true)) (b := W.d (.bool true)) rfl
    | false =>
      refine (ev_sim ht y (by rw [List.length_append]; omega) h.app).bind fun v w2 g2 _ r2 => Sim.lookP boolP_nex fun d e2 => ?_
      rw [r2.bool e2]
      exact Sim.ok (a := (Fg.d, PyData.bool d)) (b := W.d (.bool d)) rfl
  | .not x, m, ρ, ρp, hb, h => by
    rw [ev, evP]
    refine (ev_sim ht x hb h).bind fun u w1 g _ r1 => Sim.lookP boolP_nex fun c e1 => ?_
    rw [r1.bool e1]
    exact Sim.ok (a := (Fg.d, PyData.bool (!c))) (b := W.d (.bool (!c))) rfl
  | .ite c x y, m, ρ, ρp, hb, h => by
    rw [ev, evP]
    refine (ev_sim ht c hb h).bind fun u w1 g _ r1 => Sim.lookP boolP_nex fun d e1 => ?_
    rw [r1.bool e1]
    cases d with
    | true => exact ev_sim ht x (by rw [List.length_append]; omega) h.app
    | false => exact ev_sim ht y (by rw [List.length_append]; omega) h.app
  | .call f es, m, ρ, ρp, hb, h => by
    rw [ev, evP]
    refine (evs_sim ht es hb h).bind fun vs ws g _ r => ?_
    have := ht f (vs.map (·.2))
    cases e : TP f (vs.map (·.2)) with
    | ok d =>
      rw [e] at this
      rw [this b ws (m ++ g) r.arg]
      exact Sim.ok (a := (Fg.d, d)) (b := W.d d) rfl
    | exc c =>
      rw [e] at this
      rw [this b ws (m ++ g) r.arg]
      exact ⟨[], by rw [List.append_nil]⟩
    | bad => exact trivial
  | .bi p x, m, ρ, ρp, hb, h => by
    rw [ev, evP]
    refine (ev_sim ht x hb h).bind fun u w1 g _ r1 => ?_
    rw [r1.rd]
    exact Sim.data (o := biD p u.2) (o' := biD p u.2) fun z hz => hz
  | .isi x t, m, ρ, ρp, hb, h => by
    rw [ev, evP]
    refine (ev_sim ht x hb h).bind fun u w1 g _ r1 => ?_
    rw [if_pos r1.isVal, r1.isi]
    exact Sim.ok (a := (Fg.d, PyData.bool _)) (b := W.d (.bool _)) rfl
  | .isiTL x, m, ρ, ρp, hb, h => by
    rw [ev, evP]
    refine (ev_sim ht x hb h).bind fun u w1 g _ r1 => ?_
    rw [if_pos r1.isVal, r1.isi, r1.isi]
    exact Sim.ok (a := (Fg.d, PyData.bool _)) (b := W.d (.bool _)) rfl
  | .lrng x, m, ρ, ρp, hb, h => by
    rw [ev, evP]
    refine (ev_sim ht x hb h).bind fun u w1 g _ r1 => Sim.lookP intP_nex fun i e1 => ?_
    rw [r1.int e1]
    show Sim _ _ (ofO _ ((rngD i).map fun xs => W.d (.list xs))) (ofP ((rngD i).map fun xs => (Fg.d, PyData.list xs)))
    cases rngD i with
    | none => exact trivial
    | some ys => exact Sim.ok (a := (Fg.d, PyData.list ys)) (b := W.d (.list ys)) rfl
  | .trng x, m, ρ, ρp, hb, h => by
    rw [ev, evP]
    refine (ev_sim ht x hb h).bind fun u w1 g _ r1 => Sim.lookP intP_nex fun i e1 => ?_
    rw [r1.int e1]
    show Sim _ _ (ofO _ ((rngD i).map fun xs => W.d (.tuple xs))) (ofP ((rngD i).map fun xs => (Fg.d, PyData.tuple xs)))
    cases rngD i with
    | none => exact trivial
    | some ys => exact Sim.ok (a := (Fg.d, PyData.tuple ys)) (b := W.d (.tuple ys)) rfl
  | .listM x, m, ρ, ρp, hb, h => by
    rw [ev, evP]
    refine (ev_sim ht x hb h).bind fun u w1 g _ r1 => ?_
    rw [r1.rd]
    show Sim _ _ (match biD .list u.2 with
      | some (.list xs) => R.ok (W.l (m ++ g).length) (m ++ g ++ [.lst (xs.map .d)])
      | _ => .bad) (match biD .list u.2 with
      | some (.list xs) => RQ.ok (Fg.own, PyData.list xs)
      | _ => .bad)
    generalize biD .list u.2 = o
    match o with
    | some (.list xs) =>
      refine ⟨_, [.lst (xs.map .d)], rfl, (m ++ g).length, xs, rfl, ?_, rfl, ?_⟩
      · rw [List.length_append]; omega
      · rw [List.getElem?_append_right (Nat.le_refl _), Nat.sub_self]; rfl
    | none => exact trivial
    | some .none => exact trivial
    | some (.bool _) => exact trivial
    | some (.int _) => exact trivial
    | some (.str _) => exact trivial
    | some (.tuple _) => exact trivial
    | some (.dict _) => exact trivial
  | .mt k x y, m, ρ, ρp, hb, h => by
    rw [ev, evP]
    refine (ev_sim ht x hb h).bind fun u w1 g _ r1 => ?_
    by_cases hq : isQ u.2 = true
    · rw [if_pos hq, if_pos (r1.seq hq)]
      refine (ev_sim ht y (by rw [List.length_append]; omega) h.app).bind fun v w2 g2 _ r2 => ?_
      rw [r1.app.rd, r2.rd]
      exact Sim.data (o := mtD k u.2 v.2) (o' := mtD k u.2 v.2) fun z hz => hz
    · rw [if_neg hq]; exact trivial
  | .ix x y, m, ρ, ρp, hb, h => by
    rw [ev, evP]
    refine (ev_sim ht x hb h).bind fun u w1 g _ r1 => (ev_sim ht y (by rw [List.length_append]; omega) h.app).bind fun v w2 g2 _ r2 => Sim.lookP dP_nex fun d1 e1 => ?_
    rw [dP_ok e1 r2]
    show Sim _ _ (ofO _ (ixW _ w1 d1)) _
    cases e : ixP u.2 d1 with
    | none => exact trivial
    | some z =>
      rw [r1.app.ix e]
      exact Sim.ok (a := (Fg.d, z)) (b := W.d z) rfl
  | .sl x lo hi, m, ρ, ρp, hb, h => by
    rw [ev, evP]
    refine (ev_sim ht x hb h).bind fun u w1 g _ r1 => (evo_sim ht lo (by rw [List.length_append]; omega) h.app).bind fun l l' g2 _ r2 => (evo_sim ht hi (by simp only [List.length_append]; omega) h.app.app).bind fun hh hh' g3 _ r3 => ?_
    subst r2 r3
    rw [r1.app.app.rd]
    exact Sim.data (o := slD u.2 l hh) (o' := slD u.2 l hh) fun z hz => hz
  | .comp e t i c own, m, ρ, ρp, hb, h => by
    rw [ev, evP]
    exact (evi_sim ht i hb h).bind fun xs s g _ r => comp_sim (fc := evc T b c) (fe := ev T b e) (fcP := evcP TP c) (feP := evP TP e) (fun m ρ ρp hb h => evc_sim ht c hb h) (fun m ρ ρp hb h => ev_sim ht e hb h) h.app (by rw [List.length_append]; omega) r
  | .comp2 e t i c t1 i1 c1 own own1, m, ρ, ρp, hb, h => by
    rw [ev, evP]
    exact (evi_sim ht i hb h).bind fun xs s g _ r => comp2_sim (fc := evc T b c) (fe := ev T b e) (fcP := evcP TP c) (feP := evP TP e) (fi1 := evi T b i1) (fi1P := forP1 TP i1) (fc1 := evc T b c1) (fc1P := evcP TP c1) (fun m ρ ρp hb h => evc_sim ht c hb h) (fun m ρ ρp hb h => evf_sim ht i1 hb h) (fun m ρ ρp hb h => evc_sim ht c1 hb h) (fun m ρ ρp hb h => ev_sim ht e hb h) h.app (by rw [List.length_append]; omega) r
theorem evs_sim (ht : TOk T TP) : ∀ (es : Es) {m : List Cell} {ρ : Env} {ρp : EnvP}, base ≤ m.length → EnvR m base ρ ρp → Sim (fun m vs ws => relVs m base vs ws) m (evs T b es ρ m) (evsP TP es ρp)
  | .nil, m, ρ, ρp, hb, h => by
    rw [evs, evsP]
    exact Sim.ok .nil
  | .cons e r, m, ρ, ρp, hb, h => by
    rw [evs, evsP]
    exact (ev_sim ht e hb h).bind fun v w g _ r1 => (evs_sim ht r (by rw [List.length_append]; omega) h.app).bind fun vs ws g2 _ r2 => Sim.ok (.cons r1.app r2)
  | .star e r, m, ρ, ρp, hb, h => by
    rw [evs, evsP]
    refine (ev_sim ht e hb h).bind fun v w g _ r1 => ?_
    rw [r1.rd]
    obtain ⟨fg, x⟩ := v
    cases x with
    | tuple xs => exact (evs_sim ht r (by rw [List.length_append]; omega) h.app).bind fun vs ws g2 _ r2 => Sim.ok ((relVs.data xs).append r2)
    | list xs => exact (evs_sim ht r (by rw [List.length_append]; omega) h.app).bind fun vs ws g2 _ r2 => Sim.ok ((relVs.data xs).append r2)
    | _ => exact trivial
theorem evo_sim (ht : TOk T TP) : ∀ (o : Oe) {m : List Cell} {ρ : Env} {ρp : EnvP}, base ≤ m.length → EnvR m base ρ ρp → Sim (fun _ x y => x = y) m (evo T b o ρ m) (evoP TP o ρp)
  | .no, m, ρ, ρp, hb, h => by
    rw [evo, evoP]
    exact Sim.ok rfl
  | .so e, m, ρ, ρp, hb, h => by
    rw [evo, evoP]
    refine (ev_sim ht e hb h).bind fun v w g _ r1 => Sim.lookP intP_nex fun i e1 => ?_
    rw [r1.int e1]
    exact Sim.ok rfl
theorem evc_sim (ht : TOk T TP) : ∀ (o : Oe) {m : List Cell} {ρ : Env} {ρp : EnvP}, base ≤ m.length → EnvR m base ρ ρp → Sim (fun _ x y => x = y) m (evc T b o ρ m) (evcP TP o ρp)
  | .no, m, ρ, ρp, hb, h => by
    rw [evc, evcP]
    exact Sim.ok rfl
  | .so e, m, ρ, ρp, hb, h => by
    rw [evc, evcP]
    refine (ev_sim ht e hb h).bind fun v w g _ r1 => ?_
    cases e1 : boolP v with
    | ok c => rw [r1.bool e1]; exact Sim.ok rfl
    | exc c => exact absurd e1 (boolP_nex _)
    | bad => exact trivial
theorem evi_sim (ht : TOk T TP) : ∀ (i : It) {m : List Cell} {ρ : Env} {ρp : EnvP}, base ≤ m.length → EnvR m base ρ ρp → Sim (fun m xs s => SrcR m s xs) m (evi T b i ρ m) (eviP TP i ρp)
  | .ex e, m, ρ, ρp, hb, h => by
    rw [evi, eviP]
    refine (ev_sim ht e hb h).bind fun v w g _ r1 => ?_
    cases e1 : srcP v.2 with
    | none => exact trivial
    | some xs =>
      obtain ⟨s, h1, h2⟩ := src_ok r1 e1
      rw [h1]
      exact Sim.ok h2
  | .rng e, m, ρ, ρp, hb, h => by
    rw [evi, eviP]
    refine (ev_sim ht e hb h).bind fun v w g _ r1 => Sim.lookP intP_nex fun i e1 => ?_
    rw [r1.int e1]
    show Sim _ _ (ofO _ ((rngD i).map Src.d)) _
    cases rngD i with
    | none => exact trivial
    | some ys => exact Sim.ok (b := Src.d ys) rfl
  | .enum _, m, ρ, ρp, hb, h => by
    rw [eviP]
    exact trivial
  | .zip _ _, m, ρ, ρp, hb, h => by
    rw [eviP]
    exact trivial
theorem evf_sim (ht : TOk T TP) : ∀ (i : It) {m : List Cell} {ρ : Env} {ρp : EnvP}, base ≤ m.length → EnvR m base ρ ρp → Sim (fun m xs s => (s = .d xs ∨ ∃ n, s = .l n ∧ n < base ∧ m[n]? = some (.lst (xs.map .d)) ∧ xs.length ≤ lim)) m (evi T b i ρ m) (forP1 TP i ρp)
  | .ex e, m, ρ, ρp, hb, h => by
    rw [evi, forP1]
    refine (ev_sim ht e hb h).bind fun v w g _ r1 => ?_
    obtain ⟨fg, x⟩ := v
    cases fg with
    | own => exact trivial
    | d =>
      show Sim _ _ _ (ofP (srcP x))
      cases e1 : srcP x with
      | none => exact trivial
      | some xs =>
        obtain ⟨s, h1, h2⟩ := src_ok r1 e1
        rw [h1]
        refine Sim.ok ?_
        have hw : w = .d x := r1
        subst hw
        cases s with
        | d ys => exact .inl (by rw [show ys = xs from h2])
        | l n => exfalso; cases x <;> simp [srcW] at h1
    | arg =>
      show Sim _ _ _ (ofP (srcP x))
      cases e1 : srcP x with
      | none => exact trivial
      | some xs =>
        obtain ⟨s, h1, h2⟩ := src_ok r1 e1
        rw [h1]
        refine Sim.ok ?_
        cases s with
        | d ys => exact .inl (by rw [show ys = xs from h2])
        | l n =>
          rcases r1 with hw | ⟨n', ys, hw, hn, hx, hm⟩
          · simp only at hw; subst hw; exfalso; cases x <;> simp [srcW] at h1
          · subst hw
            simp only [srcW, hm] at h1
            cases h1
            exact .inr ⟨_, rfl, hn, h2.1, h2.2⟩
  | .rng e, m, ρ, ρp, hb, h => by
    rw [evi, forP1]
    refine (ev_sim ht e hb h).bind fun v w g _ r1 => Sim.lookP intP_nex fun i e1 => ?_
    rw [r1.int e1]
    show Sim _ _ (ofO _ ((rngD i).map Src.d)) _
    cases rngD i with
    | none => exact trivial
    | some ys => exact Sim.ok (b := Src.d ys) (.inl rfl)
  | .enum _, m, ρ, ρp, hb, h => by
    rw [forP1]
    exact trivial
  | .zip _ _, m, ρ, ρp, hb, h => by
    rw [forP1]
    exact trivial
end
end
end PV
namespace PV
open PySem PySem.Spec PyProof.Rows L2
/-- the caller's cells stand -/
def Kp (base : Nat) (m m' : List Cell) : Prop := base ≤ m'.length ∧ ∀ n, n < base → m'[n]? = m[n]?
theorem Kp.refl {base : Nat} {m : List Cell} (h : base ≤ m.length) : Kp base m m := ⟨h, fun _ _ => rfl⟩
theorem Kp.trans {base : Nat} {m m1 m2 : List Cell} (x : Kp base m m1) (y : Kp base m1 m2) : Kp base m m2 := ⟨y.1, fun n h => (y.2 n h).trans (x.2 n h)⟩
theorem Kp.app {base : Nat} {m m1 g : List Cell} (x : Kp base m m1) : Kp base m (m1 ++ g) := ⟨by have := x.1; rw [List.length_append]; omega, fun n h => by rw [List.getElem?_append_left (Nat.lt_of_lt_of_le h x.1)]; exact x.2 n h⟩
def SimF (base : Nat) (m : List Cell) (r : R Fl) (rp : RQ FlP) : Prop := match rp with
  | .ok (.nx ρp') => ∃ ρ' m', r = .ok (.nx ρ') m' ∧ Kp base m m' ∧ EnvR m' base ρ' ρp'
  | .ok (.rt v) => ∃ w m', r = .ok (.rt w) m' ∧ Kp base m m' ∧ relV m' base v w
  | .exc c => ∃ m', r = .exc c m' ∧ Kp base m m'
  | .bad => True
section
variable {base : Nat} {m m1 : List Cell} {r : R Fl} {rp : RQ FlP}
theorem SimF.pre (k : Kp base m m1) (h : SimF base m1 r rp) : SimF base m r rp := by
  cases rp with
  | bad => exact trivial
  | exc c => obtain ⟨m', h1, h2⟩ := h; exact ⟨m', h1, k.trans h2⟩
  | ok fl => cases fl with
    | nx ρ => obtain ⟨ρ', m', h1, h2, h3⟩ := h; exact ⟨ρ', m', h1, k.trans h2, h3⟩
    | rt v => obtain ⟨ρ', m', h1, h2, h3⟩ := h; exact ⟨ρ', m', h1, k.trans h2, h3⟩
/-- an expression first -/
theorem SimF.bindE {α β : Type} {Rel : List Cell → α → β → Prop} {q : R β} {qp : RQ α} {f : β → List Cell → R Fl} {fp : α → RQ FlP} (hb : base ≤ m.length) (h : Sim Rel m q qp) (k : ∀ a b g, qp = .ok a → Rel (m ++ g) a b → SimF base (m ++ g) (f b (m ++ g)) (fp a)) : SimF base m (q.bind f) (qp.bind fp) := by
  have kk : ∀ g, Kp base m (m ++ g) := fun g => (Kp.refl hb).app
  cases qp with
  | bad => exact trivial
  | exc c =>
    obtain ⟨g, rfl⟩ := h
    exact ⟨m ++ g, rfl, kk g⟩
  | ok a =>
    obtain ⟨b, g, rfl, hr⟩ := h
    exact (k a b g rfl hr).pre (kk g)
theorem SimF.look {γ : Type} {q : RQ γ} {fq : γ → RQ FlP} (hq : ∀ c, q ≠ .exc c) (k : ∀ y, q = .ok y → SimF base m r (fq y)) : SimF base m r (q.bind fq) := by
  cases q with
  | ok y => exact k y rfl
  | exc c => exact absurd rfl (hq c)
  | bad => exact trivial
/-- a statement first -/
theorem SimF.bindS {f : Fl → List Cell → R Fl} {fp : FlP → RQ FlP} (h : SimF base m r rp) (k1 : ∀ ρ ρp m', Kp base m m' → EnvR m' base ρ ρp → SimF base m' (f (.nx ρ) m') (fp (.nx ρp))) (k2 : ∀ w v m', Kp base m m' → relV m' base v w → SimF base m' (f (.rt w) m') (fp (.rt v))) : SimF base m (r.bind f) (rp.bind fp) := by
  cases rp with
  | bad => exact trivial
  | exc c => obtain ⟨m', rfl, h2⟩ := h; exact ⟨m', rfl, h2⟩
  | ok fl => cases fl with
    | nx ρp => obtain ⟨ρ', m', rfl, h2, h3⟩ := h; exact (k1 ρ' ρp m' h2 h3).pre h2
    | rt v => obtain ⟨w, m', rfl, h2, h3⟩ := h; exact (k2 w v m' h2 h3).pre h2
theorem SimF.nx {ρ : Env} {ρp : EnvP} (hb : base ≤ m.length) (h : EnvR m base ρ ρp) : SimF base m (.ok (.nx ρ) m) (.ok (.nx ρp)) := ⟨ρ, m, rfl, Kp.refl hb, h⟩
theorem SimF.rt {w : W} {v : VP} (hb : base ≤ m.length) (h : relV m base v w) : SimF base m (.ok (.rt w) m) (.ok (.rt v)) := ⟨w, m, rfl, Kp.refl hb, h⟩
end
theorem EnvR.own_lt {base : Nat} {m : List Cell} {ρ : Env} {ρp : EnvP} (h : EnvR m base ρ ρp) {j n : Nat} {y : PyData} (e : ρp[j]? = some (some (.own, y))) (e2 : ρ[j]? = some (some (.l n))) : n < m.length ∧ base ≤ n := by
  obtain ⟨w, h1, n', xs, h2, h3, h4, h5⟩ := h.val j _ e
  rw [e2] at h1
  cases h1
  cases h2
  exact ⟨(List.getElem?_eq_some_iff.mp h5).1, h3⟩
/-- a value that may be stored is stored -/
theorem EnvR.store {base : Nat} {m m1 : List Cell} {ρ : Env} {ρp : EnvP} {i : Nat} {v : VP} {w : W} (h : EnvR m base ρ ρp) (h1 : EnvR m1 base ρ ρp) (r : relV m1 base v w) (hf : ∀ n, v.1 = .own → w = .l n → m.length ≤ n) : EnvR m1 base (ρ.set i (some w)) (ρp.set i (some v)) :=
  h1.set r fun x n hv hw j y hj e1 e2 => by
    have := (h.own_lt e1 e2).1
    have := hf n (by rw [hv]) hw
    omega
section
variable {T : Tab} {TP : TabP} {b : Nat} {base : Nat}
theorem stP_nex {e : E} {v : VP} (c : Nat) : stP e v ≠ .exc c := by
  obtain ⟨fg, x⟩ := v
  intro h
  cases fg <;> (unfold stP at h; dsimp only at h) <;> first | (cases h; done) | (split at h <;> cases h)
theorem stP_ok {e : E} {v v' : VP} (h : stP e v = .ok v') : v' = v ∧ (v.1 = .own → isFresh e = true) := by
  obtain ⟨fg, x⟩ := v
  cases fg with
  | d => cases h; exact ⟨rfl, fun z => by cases z⟩
  | own =>
    unfold stP at h
    dsimp only at h
    split at h
    · rename_i hf; cases h; exact ⟨rfl, fun _ => hf⟩
    · cases h
  | arg => cases h; exact ⟨rfl, fun z => by cases z⟩
/-- a new cell -/
theorem ev_fresh (ht : TOk T TP) {e : E} (hf : isFresh e = true) {m : List Cell} {ρ : Env} {ρp : EnvP} (hb : base ≤ m.length) (h : EnvR m base ρ ρp) {m' : List Cell} {n : Nat} {v : VP} (e1 : ev T b e ρ m = .ok (.l n) m') (e2 : evP TP e ρp = .ok v) : m.length ≤ n := by
  cases e with
  | lstM es =>
    rw [ev] at e1
    rw [evP] at e2
    obtain ⟨vs, q1, _⟩ := rq_bind_ok e2
    have := evs_sim (b := b) ht es hb h
    rw [q1] at this
    obtain ⟨ws, g, h1, _⟩ := this
    rw [h1] at e1
    have e1 : (if ws.length ≤ lim then R.ok (W.l (m ++ g).length) (m ++ g ++ [Cell.lst ws]) else .bad) = .ok (.l n) m' := e1
    split at e1
    · cases e1
      rw [List.length_append]; omega
    · cases e1
  | listM x =>
    rw [ev] at e1
    rw [evP] at e2
    obtain ⟨u, q1, _⟩ := rq_bind_ok e2
    have := ev_sim (b := b) ht x hb h
    rw [q1] at this
    obtain ⟨w, g, h1, _⟩ := this
    rw [h1] at e1
    have e1 : (match (rdW (m ++ g) w).bind (biD .list) with
      | some (.list xs) => R.ok (W.l (m ++ g).length) (m ++ g ++ [Cell.lst (xs.map .d)])
      | _ => .bad) = .ok (.l n) m' := e1
    split at e1
    · cases e1
      rw [List.length_append]; omega
    · cases e1
  | _ => cases hf
theorem ev_st (ht : TOk T TP) {e : E} {m : List Cell} {ρ : Env} {ρp : EnvP} (hb : base ≤ m.length) (h : EnvR m base ρ ρp) {v v' : VP} (e2 : evP TP e ρp = .ok v) (e3 : stP e v = .ok v') : v' = v ∧ ∃ w g, ev T b e ρ m = .ok w (m ++ g) ∧ relV (m ++ g) base v w ∧ ∀ n, v.1 = .own → w = .l n → m.length ≤ n := by
  obtain ⟨rfl, hf⟩ := stP_ok e3
  have := ev_sim (b := b) ht e hb h
  rw [e2] at this
  obtain ⟨w, g, h1, h2⟩ := this
  exact ⟨rfl, w, g, h1, h2, fun n ho hw => by subst hw; exact ev_fresh ht (hf ho) hb h h1 e2⟩
theorem SimF.bindSt (ht : TOk T TP) {e : E} {m : List Cell} {ρ : Env} {ρp : EnvP} (hb : base ≤ m.length) (h : EnvR m base ρ ρp) {f : W → List Cell → R Fl} {fp : VP → RQ FlP} (k : ∀ v w g, relV (m ++ g) base v w → (∀ n, v.1 = .own → w = .l n → m.length ≤ n) → SimF base (m ++ g) (f w (m ++ g)) (fp v)) :
    SimF base m ((ev T b e ρ m).bind f) ((evP TP e ρp).bind fun v => (stP e v).bind fp) := by
  have hs := ev_sim (b := b) ht e hb h
  cases e2 : evP TP e ρp with
  | bad => exact trivial
  | exc c =>
    rw [e2] at hs
    obtain ⟨g, h1⟩ := hs
    rw [h1]
    exact ⟨m ++ g, rfl, (Kp.refl hb).app⟩
  | ok v =>
    show SimF base m _ ((stP e v).bind fp)
    refine SimF.look stP_nex fun v' e3 => ?_
    obtain ⟨rfl, w, g, h1, h2, h3⟩ := ev_st (b := b) ht hb h e2 e3
    rw [h1]
    exact (k v' w g h2 h3).pre ((Kp.refl hb).app)
/-- an own cell's list is another from now on -/
theorem own_write {m : List Cell} {ρ : Env} {ρp : EnvP} (h : EnvR m base ρ ρp) {i n : Nat} {xs ys : List PyData} (e1 : ρp[i]? = some (some (.own, .list xs))) (e2 : ρ[i]? = some (some (.l n))) (hb : base ≤ m.length) :
    EnvR (m.set n (.lst (ys.map .d))) base ρ (ρp.set i (some (.own, .list ys))) ∧ Kp base m (m.set n (.lst (ys.map .d))) := by
  obtain ⟨hn, hbn⟩ := h.own_lt e1 e2
  have hi : i < ρp.length := (List.getElem?_eq_some_iff.mp e1).1
  refine ⟨⟨by simp [h.len], fun j u e => ?_, fun a c k x y h1 h2 h3 h4 => ?_⟩, by simpa using hb, fun k hk => List.getElem?_set_ne (by omega)⟩
  · rcases set_get e with ⟨rfl, _, rfl⟩ | ⟨hne, e⟩
    · exact ⟨_, e2, n, ys, rfl, hbn, rfl, List.getElem?_set_self hn⟩
    · obtain ⟨w, q1, q2⟩ := h.val j u e
      refine ⟨w, q1, ?_⟩
      obtain ⟨fg, x⟩ := u
      cases fg with
      | d => exact q2
      | own =>
        obtain ⟨n', zs, p1, p2, p3, p4⟩ := q2
        refine ⟨n', zs, p1, p2, p3, ?_⟩
        have : n ≠ n' := fun z => hne (h.own i j n _ _ e1 e e2 (by rw [q1, p1, z]))
        rw [List.getElem?_set_ne this]
        exact p4
      | arg =>
        refine q2.imp_right fun ⟨n', zs, p1, p2, p3, p4⟩ => ⟨n', zs, p1, p2, p3, ?_⟩
        rw [List.getElem?_set_ne (by omega)]
        exact p4
  · have old : ∀ (j : Nat) (z : PyData), (ρp.set i (some (Fg.own, PyData.list ys)))[j]? = some (some (Fg.own, z)) → ∃ z' : PyData, ρp[j]? = some (some (Fg.own, z')) := fun j z e => by
      rcases set_get e with ⟨ei, _, _⟩ | ⟨_, e⟩
      · exact ⟨_, ei ▸ e1⟩
      · exact ⟨_, e⟩
    obtain ⟨x', hx⟩ := old a x h1
    obtain ⟨y', hy⟩ := old c y h2
    exact h.own a c k x' y' hx hy h3 h4
/-- a source that the loop may not write -/
def SrcB (base : Nat) (m : List Cell) (xs : List PyData) (s : Src) : Prop := s = .d xs ∨ ∃ n, s = .l n ∧ n < base ∧ m[n]? = some (.lst (xs.map .d)) ∧ xs.length ≤ lim
theorem SrcB.at {m m' : List Cell} {xs : List PyData} {s : Src} (h : SrcB base m xs s) (k : Kp base m m') (i : Nat) : s.at m' i = some (xs[i]?.map .d) := by
  rcases h with rfl | ⟨n, rfl, hn, hm, _⟩
  · rfl
  · show (match m'[n]? with
      | some (.lst ws) => some ws[i]?
      | _ => none) = _
    rw [k.2 n hn, hm]
    simp
theorem SrcB.fuel {m : List Cell} {xs : List PyData} {s : Src} (h : SrcB base m xs s) : xs.length < s.fuel := by
  rcases h with rfl | ⟨n, rfl, hn, hm, hl⟩
  · exact Nat.lt_succ_self _
  · show xs.length < lim + 2; omega
theorem for_sim {m : List Cell} {xs : List PyData} {s : Src} {f : Env → W → List Cell → R Fl} {fp : EnvP → PyData → RQ FlP} (hs : SrcB base m xs s)
    (hf : ∀ (x : PyData) (m' : List Cell) (ρ : Env) (ρp : EnvP), base ≤ m'.length → EnvR m' base ρ ρp → SimF base m' (f ρ (.d x) m') (fp ρp x)) :
    ∀ (k i : Nat) (m' : List Cell) (ρ : Env) (ρp : EnvP), Kp base m m' → EnvR m' base ρ ρp → xs.length - i < k → SimF base m' (forN f s k i ρ m') (forP fp (xs.drop i) ρp)
  | 0, i, m', ρ, ρp, hk, h, hl => absurd hl (Nat.not_lt_zero _)
  | k + 1, i, m', ρ, ρp, hk, h, hl => by
    unfold forN
    rw [hs.at hk]
    by_cases hi : i < xs.length
    · rw [List.getElem?_eq_getElem hi, List.drop_eq_getElem_cons hi]
      unfold forP
      show SimF base m' ((f ρ (.d xs[i]) m').bind fun fl m' => (match fl with
        | .nx ρ' => forN f s k (i + 1) ρ' m'
        | .rt v => R.ok (Fl.rt v) m')) _
      refine SimF.bindS (hf xs[i] m' ρ ρp hk.1 h) (fun ρ2 ρp2 m2 k2 h2 => ?_) fun w v m2 k2 h2 => ?_
      · exact for_sim hs hf k (i + 1) m2 ρ2 ρp2 (hk.trans k2) h2 (by omega)
      · exact SimF.rt k2.1 h2
    · rw [List.getElem?_eq_none (by omega), List.drop_eq_nil_of_le (by omega)]
      exact SimF.nx hk.1 h
theorem whl_sim {c : Env → List Cell → R Bool} {cP : EnvP → RQ Bool} {f : Env → List Cell → R Fl} {fp : EnvP → RQ FlP} (hc : SC base c cP) (hf : ∀ (m' : List Cell) (ρ : Env) (ρp : EnvP), base ≤ m'.length → EnvR m' base ρ ρp → SimF base m' (f ρ m') (fp ρp)) :
    ∀ (k : Nat) (m' : List Cell) (ρ : Env) (ρp : EnvP), base ≤ m'.length → EnvR m' base ρ ρp → SimF base m' (whl c f k ρ m') (whlP cP fp k ρp)
  | 0, m', ρ, ρp, hb, h => trivial
  | k + 1, m', ρ, ρp, hb, h => by
    unfold whl whlP
    refine SimF.bindE hb (hc m' ρ ρp hb h) fun d d' g _ e => ?_
    subst e
    cases d with
    | false => exact SimF.nx (by rw [List.length_append]; omega) h.app
    | true =>
      refine SimF.bindS (hf (m' ++ g) ρ ρp (by rw [List.length_append]; omega) h.app) (fun ρ2 ρp2 m2 k2 h2 => ?_) fun w v m2 k2 h2 => ?_
      · exact whl_sim hc hf k m2 ρ2 ρp2 k2.1 h2
      · exact SimF.rt k2.1 h2
theorem setW_map {xs : List PyData} {k : Int} {x : PyData} : setW k (.d x) (xs.map .d) = (ixN xs.length k).map fun j => (xs.set j x).map .d := by
  unfold setW
  rw [List.length_map]
  cases ixN xs.length k with
  | none => rfl
  | some j =>
    show some ((xs.map W.d).set j (.d x)) = some ((xs.set j x).map .d)
    rw [List.map_set]
mutual
theorem ex_sim (ht : TOk T TP) : ∀ (s : S) {m : List Cell} {ρ : Env} {ρp : EnvP}, base ≤ m.length → EnvR m base ρ ρp → SimF base m (ex T base s ρ m) (exP TP s ρp)
  | .asg i e, m, ρ, ρp, hb, h => by
    rw [ex, exP]
    exact SimF.bindSt ht hb h fun v w g r hf => SimF.nx (by rw [List.length_append]; omega) (h.store h.app r hf)
  | .par i j x y, m, ρ, ρp, hb, h => by
    rw [ex, exP]
    refine SimF.bindSt ht hb h fun u w1 g r1 hf1 => ?_
    have hb1 : base ≤ (m ++ g).length := by rw [List.length_append]; omega
    refine SimF.bindSt ht hb1 h.app fun v w2 g2 r2 hf2 => ?_
    have e1 : EnvR (m ++ g) base (ρ.set i (some w1)) (ρp.set i (some u)) := h.store h.app r1 hf1
    exact SimF.nx (by rw [List.length_append]; omega) (e1.store e1.app r2 hf2)
  | .par3 i j k x y z, m, ρ, ρp, hb, h => by
    rw [ex, exP]
    refine SimF.bindSt ht hb h fun u w1 g r1 hf1 => ?_
    have hb1 : base ≤ (m ++ g).length := by rw [List.length_append]; omega
    refine SimF.bindSt ht hb1 h.app fun v w2 g2 r2 hf2 => ?_
    have hb2 : base ≤ (m ++ g ++ g2).length := by rw [List.length_append]; omega
    refine SimF.bindSt ht hb2 h.app.app fun v3 w3 g3 r3 hf3 => ?_
    have e1 : EnvR (m ++ g) base (ρ.set i (some w1)) (ρp.set i (some u)) := h.store h.app r1 hf1
    have e2 : EnvR (m ++ g ++ g2) base ((ρ.set i (some w1)).set j (some w2)) ((ρp.set i (some u)).set j (some v)) := e1.store e1.app r2 hf2
    exact SimF.nx (by rw [List.length_append]; omega) (e2.store e2.app r3 hf3)
  | .sub x y e, m, ρ, ρp, hb, h => by
    cases x with
    | var i =>
      rw [ex, exP]
      refine SimF.bindE hb (ev_sim (b := base) ht e hb h) fun w0 w g _ r => SimF.look dP_nex fun d hd => ?_
      have hw := dP_ok hd r
      subst hw
      rw [ev]
      unfold getP
      split
      · rename_i u hu
        obtain ⟨wu, q1, q2⟩ := h.val i u hu
        have e1 : getV ρ i (m ++ g) = .ok wu (m ++ g) := by unfold getV; rw [q1]
        rw [e1]
        have hb1 : base ≤ (m ++ g).length := by rw [List.length_append]; omega
        show SimF base (m ++ g) ((ev T base y ρ (m ++ g)).bind fun v m3 => subX base ρ m3 (.d d) wu v) ((evP TP y ρp).bind fun v => (intP v).bind fun k => (match u.1 with
          | .own => (ofP (setP k d u.2)).bind fun y => .ok (.nx (ρp.set i (some (.own, y))))
          | _ => .bad))
        refine SimF.bindE hb1 (ev_sim (b := base) ht y hb1 h.app) fun v0 v g2 _ r2 => SimF.look intP_nex fun k hk => ?_
        have hv := r2.int hk
        subst hv
        obtain ⟨fg, xu⟩ := u
        cases fg with
        | d => exact trivial
        | arg => exact trivial
        | own =>
          obtain ⟨n, xs, p1, p2, p3, p4⟩ := q2
          simp only at p3
          subst p1 p3
          have p5 : (m ++ g ++ g2)[n]? = some (.lst (xs.map .d)) := get_app (get_app p4)
          show SimF base _ (subX base ρ (m ++ g ++ g2) (.d d) (.l n) (.d (.int k))) ((ofP (setP k d (.list xs))).bind fun y => .ok (.nx (ρp.set i (some (.own, y)))))
          unfold subX putL
          dsimp only
          rw [if_pos p2, p5]
          dsimp only
          rw [setW_map, show setP k d (.list xs) = (ixN xs.length k).map fun j => PyData.list (xs.set j d) from rfl]
          cases ixN xs.length k with
          | none => exact trivial
          | some j =>
            have hb2 : base ≤ (m ++ g ++ g2).length := by rw [List.length_append]; omega
            obtain ⟨z1, z2⟩ := own_write (ys := xs.set j d) (h.app (g := g)).app hu q1 hb2
            exact ⟨_, _, rfl, z2, z1⟩
      · exact trivial
    | _ => exact trivial
  | .aug i e, m, ρ, ρp, hb, h => by
    rw [ex, exP]
    unfold getP
    split
    · rename_i u hu
      obtain ⟨wu, q1, q2⟩ := h.val i u hu
      have e1 : getV ρ i m = .ok wu m := by unfold getV; rw [q1]
      rw [e1]
      show SimF base m _ ((intP u).bind _)
      refine SimF.look intP_nex fun i0 hi => ?_
      have hv := q2.int hi
      subst hv
      show SimF base m ((ev T base e ρ m).bind fun v m1 => (intOf m1 v).bind fun j _ => R.ok (Fl.nx (ρ.set i (some (.d (.int (i0 + j)))))) m1) _
      refine SimF.bindE hb (ev_sim (b := base) ht e hb h) fun w0 w g _ r => SimF.look intP_nex fun j hj => ?_
      have hw := r.int hj
      subst hw
      exact SimF.nx (by rw [List.length_append]; omega) h.app.setD
    · exact trivial
  | .append i e, m, ρ, ρp, hb, h => by
    rw [ex, exP]
    unfold getP
    split
    · rename_i u hu
      obtain ⟨wu, q1, q2⟩ := h.val i u hu
      have e1 : getV ρ i m = .ok wu m := by unfold getV; rw [q1]
      rw [e1]
      obtain ⟨fg, xu⟩ := u
      cases fg with
      | own =>
        obtain ⟨n, xs, p1, p2, p3, p4⟩ := q2
        simp only at p3
        subst p1 p3
        show SimF base m (appX base ρ m (ev T base e ρ m) (.l n)) ((evP TP e ρp).bind fun w => (dP w).bind fun x => (ofP (pushP x (.list xs))).bind fun y => .ok (.nx (ρp.set i (some (.own, y)))))
        unfold appX
        dsimp only
        rw [if_pos (by simp only [isSeqW, p4])]
        refine SimF.bindE hb (ev_sim (b := base) ht e hb h) fun w0 w g _ r => SimF.look dP_nex fun d hd => ?_
        have hw := dP_ok hd r
        subst hw
        have p5 : (m ++ g)[n]? = some (.lst (xs.map .d)) := get_app p4
        unfold putL
        rw [if_pos p2, p5]
        dsimp only
        unfold pushW pushP
        dsimp only
        by_cases hl : xs.length ≤ lim
        · rw [if_pos (by simpa using hl), if_pos hl]
          have hb2 : base ≤ (m ++ g).length := by rw [List.length_append]; omega
          obtain ⟨z1, z2⟩ := own_write (ys := xs ++ [d]) (h.app (g := g)) hu q1 hb2
          rw [List.map_append] at z1 z2
          exact ⟨_, _, rfl, z2, z1⟩
        · rw [if_neg hl]; exact trivial
      | d => exact trivial
      | arg => exact trivial
    · exact trivial
  | .ex e, m, ρ, ρp, hb, h => by
    rw [ex, exP]
    exact SimF.bindE hb (ev_sim (b := base) ht e hb h) fun w0 w g _ r => SimF.nx (by rw [List.length_append]; omega) h.app
  | .ite c x y, m, ρ, ρp, hb, h => by
    rw [ex, exP]
    refine SimF.bindE hb (ev_sim (b := base) ht c hb h) fun w0 w g _ r => SimF.look boolP_nex fun d hd => ?_
    have hw := r.bool hd
    subst hw
    cases d with
    | true => exact exs_sim ht x (by rw [List.length_append]; omega) h.app
    | false => exact exs_sim ht y (by rw [List.length_append]; omega) h.app
  | .loop t i body, m, ρ, ρp, hb, h => by
    rw [ex, exP]
    refine SimF.bindE hb (evf_sim (b := base) ht i hb h) fun xs s g _ r => ?_
    have hb1 : base ≤ (m ++ g).length := by rw [List.length_append]; omega
    rw [forS_N]
    have r' : SrcB base (m ++ g) xs s := r
    exact for_sim r' (fun x m' ρ ρp hb' h' => by
      cases e : tgP t x ρp with
      | none => exact trivial
      | some ρp' =>
        obtain ⟨ρ', t1, er⟩ := h'.tg e
        rw [t1]
        exact exs_sim ht body hb' er) s.fuel 0 (m ++ g) ρ ρp (Kp.refl hb1) h.app (by have := r'.fuel; omega)
  | .while n c body, m, ρ, ρp, hb, h => by
    rw [ex, exP]
    refine whl_sim (fun m ρ ρp hb h => ?_) (fun m' ρ ρp hb h => exs_sim ht body hb h) n m ρ ρp hb h
    refine (ev_sim (b := base) ht c hb h).bind fun v w g _ r1 => ?_
    cases e1 : boolP v with
    | ok c => rw [r1.bool e1]; exact Sim.ok rfl
    | exc c => exact absurd e1 (boolP_nex _)
    | bad => exact trivial
  | .ret e, m, ρ, ρp, hb, h => by
    rw [ex, exP]
    exact SimF.bindE hb (ev_sim (b := base) ht e hb h) fun w0 w g _ r => SimF.rt (by rw [List.length_append]; omega) r
  | .retN, m, ρ, ρp, hb, h => by
    rw [ex, exP]
    exact SimF.rt (v := (.d, .none)) hb rfl
  | .raise c, m, ρ, ρp, hb, h => by
    rw [ex, exP]
    exact ⟨m, rfl, Kp.refl hb⟩
  | .pass, m, ρ, ρp, hb, h => by
    rw [ex, exP]
    exact SimF.nx hb h
  | .never, m, ρ, ρp, hb, h => by
    rw [exP]
    exact trivial
theorem exs_sim (ht : TOk T TP) : ∀ (s : Ss) {m : List Cell} {ρ : Env} {ρp : EnvP}, base ≤ m.length → EnvR m base ρ ρp → SimF base m (exs T base s ρ m) (exsP TP s ρp)
  | .nil, m, ρ, ρp, hb, h => by
    rw [exs, exsP]
    exact SimF.nx hb h
  | .cons s r, m, ρ, ρp, hb, h => by
    rw [exs, exsP]
    exact SimF.bindS (ex_sim ht s hb h) (fun ρ2 ρp2 m2 k2 h2 => exs_sim ht r k2.1 h2) fun w v m2 k2 h2 => SimF.rt k2.1 h2
end
end

/-! ### defs -/
theorem endW_own {m : List Cell} {base n : Nat} {xs : List PyData} (hb : base ≤ n) (hm : m[n]? = some (.lst (xs.map .d))) (k : Nat) : endW m base (k + 1) (.l n) = some (.list xs) := by
  unfold endW
  dsimp only
  rw [if_pos hb, hm]
  dsimp only
  have e : ∀ ys : List PyData, seqO ((ys.map W.d).map (endW m base k)) = some ys := fun ys => by
    induction ys with
    | nil => rfl
    | cons y r ih =>
      have e1 : endW m base k (.d y) = some y := by cases k <;> rfl
      show seqO (endW m base k (.d y) :: (r.map W.d).map (endW m base k)) = _
      rw [e1]
      show (seqO ((r.map W.d).map (endW m base k))).map (y :: ·) = _
      rw [ih]
      rfl
  rw [e]
  rfl
theorem startR {m : List Cell} {f : Fn} {ws : List W} {xs : List PyData} (h : ArgR m ws xs) : EnvR m m.length (startE f ws) (startP f xs) := by
  have hl : ws.length = xs.length := by induction h <;> simp [*]
  have key : ∀ (i : Nat) v, (xs.map fun x => some (Fg.arg, x))[i]? = some (some v) → ∃ w, ws[i]? = some w ∧ relV m m.length v w := by
    clear hl
    induction h with
    | nil => intro i v e; simp at e
    | @cons w ws x xs h1 _ ih =>
      intro i v e
      cases i with
      | zero =>
        simp at e
        subst e
        refine ⟨w, rfl, ?_⟩
        rcases h1 with h1 | ⟨n, ys, a, b, c⟩
        · exact .inl h1
        · exact .inr ⟨n, ys, a, (List.getElem?_eq_some_iff.mp c).1, b, c⟩
      | succ i => exact ih i v (by simpa using e)
  have low : ∀ (i : Nat) v, (startP f xs)[i]? = some (some v) → i < xs.length ∧ (xs.map fun x => some (Fg.arg, x))[i]? = some (some v) := fun i v e => by
    unfold startP at e
    by_cases hi : i < xs.length
    · rw [List.getElem?_append_left (by simpa using hi)] at e
      exact ⟨hi, e⟩
    · rw [List.getElem?_append_right (by simpa using hi), List.getElem?_replicate] at e
      split at e <;> cases e
  refine ⟨by unfold startE startP; simp [hl], fun i v e => ?_, fun i j n x y h1 h2 _ _ => ?_⟩
  · obtain ⟨hi, e⟩ := low i v e
    obtain ⟨w, h1, h2⟩ := key i v e
    refine ⟨w, ?_, h2⟩
    unfold startE
    rw [List.getElem?_append_left (by simp; omega), List.getElem?_map, h1]
    rfl
  · obtain ⟨_, e⟩ := low i _ h1
    rw [List.getElem?_map] at e
    obtain ⟨z, _, h3⟩ := Option.map_eq_some_iff.mp e
    cases h3
theorem argR_len {m : List Cell} {ws : List W} {xs : List PyData} (h : ArgR m ws xs) : ws.length = xs.length := by induction h <;> simp [*]
theorem run_sim {T : Tab} {TP : TabP} (ht : TOk T TP) (f : Fn) (xs : List PyData) (b : Nat) (ws : List W) (m : List Cell) (h : ArgR m ws xs) : match runP TP f xs with
  | .ok d => run T f b ws m = .ok (.d d) m
  | .exc c => run T f b ws m = .exc c m
  | .bad => True := by
  unfold runP
  by_cases hp : (f.pure && xs.length == f.np) = true
  · rw [if_pos hp]
    simp only [Bool.and_eq_true, beq_iff_eq] at hp
    unfold run
    rw [if_pos (by rw [argR_len h]; exact hp.2), hp.1]
    dsimp only
    have hs := exs_sim ht f.body (Nat.le_refl m.length) (startR (f := f) h)
    cases e : exsP TP f.body (startP f xs) with
    | bad => exact trivial
    | exc c =>
      rw [e] at hs
      obtain ⟨m', h1, _⟩ := hs
      rw [h1]
      rfl
    | ok fl =>
      rw [e] at hs
      cases fl with
      | nx ρp =>
        obtain ⟨ρ', m', h1, _⟩ := hs
        rw [h1]
        rfl
      | rt v =>
        obtain ⟨w, m', h1, _, h3⟩ := hs
        rw [h1]
        obtain ⟨fg, x⟩ := v
        have kd : w = .d x → finP m m' w = .ok (.d x) m := fun hw => by subst hw; rfl
        cases fg with
        | d => exact kd h3
        | own =>
          obtain ⟨n, ys, p1, p2, p3, p4⟩ := h3
          simp only at p3
          subst p1 p3
          show finP m m' (.l n) = .ok (.d (.list ys)) m
          unfold finP
          dsimp only
          rw [if_neg (by omega), endW_own p2 p4]
        | arg =>
          show match (if isL x then (RQ.bad : RQ PyData) else .ok x) with
            | .ok d => finP m m' w = .ok (.d d) m
            | .exc c => finP m m' w = .exc c m
            | .bad => True
          by_cases hl : isL x = true
          · rw [if_pos hl]; exact trivial
          · rw [if_neg hl]
            exact kd (h3.nl (by simpa using hl))
  · rw [if_neg hp]
    exact trivial
theorem tok_ext {T : Tab} {TP : TabP} (ht : TOk T TP) (n : Nat) (f : Fn) : TOk (ext T n f) (extP TP n f) := fun j xs => by
  by_cases hj : j = n
  · subst hj
    have e1 : extP TP j f j xs = runP TP f xs := by unfold extP; rw [if_pos rfl]
    rw [e1, ext_same]
    have := run_sim ht f xs
    cases e : runP TP f xs with
    | ok d => exact fun b ws m h => by have := this b ws m h; rw [e] at this; exact this
    | exc c => exact fun b ws m h => by have := this b ws m h; rw [e] at this; exact this
    | bad => exact trivial
  · have e1 : extP TP n f j xs = TP j xs := by unfold extP; rw [if_neg hj]
    rw [e1, ext_ne hj]
    exact ht j xs
def tabsP : TabP → Nat → List Df → TabP
  | T, _, [] => T
  | T, n, d :: r => tabsP (extP T n d.f) (n + 1) r
theorem tabsP_lt : ∀ (ds : List Df) {T : TabP} {n j : Nat}, j < n → tabsP T n ds j = T j
  | [], _, _, _, _ => rfl
  | d :: r, T, n, j, h => by
    show tabsP (extP T n d.f) (n + 1) r j = T j
    rw [tabsP_lt r (Nat.lt_succ_of_lt h)]
    funext xs
    unfold extP
    rw [if_neg (by omega)]
theorem tabsP_take : ∀ (ds : List Df) {T : TabP} {n k j : Nat}, j < n + k → tabsP T n (ds.take k) j = tabsP T n ds j
  | [], _, _, _, _, _ => by rw [List.take_nil]
  | d :: r, T, n, 0, j, h => by
    rw [tabsP_lt (d :: r) (by omega)]
    rfl
  | d :: r, T, n, k + 1, j, h => by
    show tabsP (extP T n d.f) (n + 1) (r.take k) j = tabsP (extP T n d.f) (n + 1) r j
    exact tabsP_take r (by omega)
theorem tabsP_at : ∀ (ds : List Df) {T : TabP} {n i : Nat} {d : Df}, ds[i]? = some d → tabsP T n ds (n + i) = runP (tabsP T n (ds.take i)) d.f
  | [], _, _, _, _, h => by cases h
  | d :: r, T, n, 0, e, h => by
    cases h
    show tabsP (extP T n d.f) (n + 1) r n = runP T d.f
    rw [tabsP_lt r (Nat.lt_succ_self n)]
    funext xs
    unfold extP
    rw [if_pos rfl]
  | d :: r, T, n, i + 1, e, h => by
    show tabsP (extP T n d.f) (n + 1) r (n + (i + 1)) = runP (tabsP (extP T n d.f) (n + 1) (r.take i)) e.f
    rw [show n + (i + 1) = (n + 1) + i by omega]
    exact tabsP_at r (by simpa using h)
def TP0 : TabP := fun _ _ => .bad
def tabP (ds : List Df) : TabP := tabsP TP0 0 ds
theorem tabP_take {ds : List Df} {k j : Nat} (h : j < k) : tabP (ds.take k) j = tabP ds j := tabsP_take ds (by omega)
theorem tabP_at {ds : List Df} {i : Nat} {d : Df} (h : ds[i]? = some d) : tabP ds i = runP (tabP (ds.take i)) d.f := by
  have := tabsP_at ds (T := TP0) (n := 0) h
  rw [Nat.zero_add] at this
  exact this
theorem tok_tabs : ∀ (ds : List Df) {T : Tab} {TP : TabP} (n : Nat), TOk T TP → TOk (tabs T n ds) (tabsP TP n ds)
  | [], _, _, _, h => h
  | d :: r, _, _, n, h => tok_tabs r (n + 1) (tok_ext h n d.f)
theorem tok_of (ds : List Df) : TOk (tabOf ds) (tabP ds) := tok_tabs ds 0 fun _ _ => trivial
end PV
namespace PV
open PySem PySem.Spec PyProof.Rows L2
theorem tabs_lt : ∀ (ds : List Df) {T : Tab} {n j : Nat}, j < n → tabs T n ds j = T j
  | [], _, _, _, _ => rfl
  | d :: r, T, n, j, h => by
    show tabs (ext T n d.f) (n + 1) r j = T j
    rw [tabs_lt r (Nat.lt_succ_of_lt h), ext_ne (by omega)]
theorem tabs_at : ∀ (ds : List Df) {T : Tab} {n i : Nat} {d : Df}, ds[i]? = some d → tabs T n ds (n + i) = run (tabs T n (ds.take i)) d.f
  | [], _, _, _, _, h => by cases h
  | d :: r, T, n, 0, e, h => by
    cases h
    show tabs (ext T n d.f) (n + 1) r n = run T d.f
    rw [tabs_lt r (Nat.lt_succ_self n), ext_same]
  | d :: r, T, n, i + 1, e, h => by
    show tabs (ext T n d.f) (n + 1) r (n + (i + 1)) = run (tabs (ext T n d.f) (n + 1) (r.take i)) e.f
    rw [show n + (i + 1) = (n + 1) + i by omega]
    exact tabs_at r (by simpa using h)
theorem tabOf_at {ds : List Df} {i : Nat} {d : Df} (h : ds[i]? = some d) : tabOf ds i = run (tabOf (ds.take i)) d.f := by
  have := tabs_at ds (T := T0) (n := 0) h
  rw [Nat.zero_add] at this
  exact this
theorem argR_d {m : List Cell} : ∀ xs : List PyData, ArgR m (xs.map .d) xs
  | [] => .nil
  | x :: r => .cons (.inl rfl) (argR_d r)
/-- a pure def's call with data -/
theorem call_d {ds : List Df} {f : Nat} {xs : List PyData} {d : PyData} (h : tabP ds f xs = .ok d) (b : Nat) (m : List Cell) : tabOf ds f b (xs.map .d) m = .ok (.d d) m := by
  have := tok_of ds f xs
  rw [h] at this
  exact this b _ m (argR_d xs)
/-! ### the draws -/
def b_taken : Ss := (.cons (.ite (.cmp .gt (.ix (.var 0) (.cst (.int 3))) (.cst (.int 0))) (.cons (.asg 3 (.bop .mod (.bi .int (.ix (.var 0) (.cst (.int 3)))) (.var 1))) (.cons (.sub (.var 0) (.cst (.int 3)) (.bop .fdiv (.ix (.var 0) (.cst (.int 3))) (.var 1))) (.cons (.ret (.var 3)) .nil))) .nil) (.cons (.sub (.var 0) (.cst (.int 1)) (.bop .add (.ix (.var 0) (.cst (.int 1))) (.cst (.int 1)))) (.cons (.ite (.cmp .gt (.ix (.var 0) (.cst (.int 1))) (.bi .len (.ix (.var 0) (.cst (.int 0))))) (.cons (.sub (.var 0) (.cst (.int 2)) (.bop .mod (.bi .int (.bop .add (.bop .mul (.ix (.var 0) (.cst (.int 2))) (.cst (.int 48271))) (.cst (.int 11)))) (.cst (.int 2147483647)))) (.cons (.ret (.bop .mod (.bi .int (.bop .fdiv (.ix (.var 0) (.cst (.int 2))) (.cst (.int 7)))) (.var 1))) .nil)) .nil) (.cons (.asg 2 (.ix (.ix (.var 0) (.cst (.int 0))) (.bop .sub (.ix (.var 0) (.cst (.int 1))) (.cst (.int 1))))) (.cons (.sub (.var 0) (.cst (.int 2)) (.bop .mod (.bi .int (.bop .add (.bop .add (.bop .mul (.ix (.var 0) (.cst (.int 2))) (.cst (.int 48271))) (.var 2)) (.cst (.int 11)))) (.cst (.int 2147483647)))) (.cons (.ite (.cmp .ge (.var 2) (.bop .pow (.cst (.int 10)) (.cst (.int 18)))) (.cons (.sub (.var 0) (.cst (.int 3)) (.bop .fdiv (.var 2) (.var 1))) .nil) .nil) (.cons (.ret (.bop .mod (.bi .int (.var 2)) (.var 1))) .nil)))))))
def f_taken : Fn := ⟨2, 4, false, b_taken⟩
/-- the row: the script, the place, the seed, the rest -/
def rowC (ns : List Int) (i s r : Int) : Cell := .lst [.d (.list (ns.map .int)), .d (.int i), .d (.int s), .d (.int r)]
/-- a row whose place and rest are not below zero -/
def RowS (ns : List Int) (c : Cell) : Prop := ∃ i s r, c = rowC ns i s r ∧ 0 ≤ i ∧ 0 ≤ r
theorem ixN_nat {n : Nat} {i : Int} (h0 : 0 ≤ i) (h1 : i < n) : ixN n i = some i.toNat := by
  unfold ixN
  rw [if_pos h0, if_pos h1]
theorem atI_cell0 {a b c d : W} : L2.atI [a, b, c, d] 0 = some a := rfl
theorem atI_cell1 {a b c d : W} : L2.atI [a, b, c, d] 1 = some b := rfl
theorem atI_cell2 {a b c d : W} : L2.atI [a, b, c, d] 2 = some c := rfl
theorem atI_cell3 {a b c d : W} : L2.atI [a, b, c, d] 3 = some d := rfl
theorem setW_1 {a b c d w : W} : setW 1 w [a, b, c, d] = some [a, w, c, d] := rfl
theorem setW_2 {a b c d w : W} : setW 2 w [a, b, c, d] = some [a, b, w, d] := rfl
theorem setW_3 {a b c d w : W} : setW 3 w [a, b, c, d] = some [a, b, c, w] := rfl
theorem taken_ok (T : Tab) (ns : List Int) {n : Int} (hn : 0 < n) (hn2 : n < 1073741824) {c : Cell} (hc : RowS ns c) (g : List Cell) : ∃ v c', 0 ≤ v ∧ v < n ∧ RowS ns c' ∧ run T f_taken 0 [.l 0, .d (.int n)] (c :: g) = .ok (.d (.int v)) (c' :: g) := by
  obtain ⟨i, s, r, rfl, hi, hr⟩ := hc
  by_cases h : 0 < r
  · refine ⟨r % n, rowC ns i s (r / n), Int.emod_nonneg _ (by omega), Int.emod_lt_of_pos _ hn, ⟨i, s, r / n, rfl, hi, Int.ediv_nonneg hr (by omega)⟩, ?_⟩
    simp [run, f_taken, b_taken, startE, exs, ex, ev, getV, dataOf, boolOf, intOf, ofO, R.bind, rdW, cmpW, cmpD, binD, biD, ixW, rowC, atI_cell3, h, hn, hn2, subX, putL, setW_3, List.set]
  · by_cases h2 : (ns.length : Int) < i + 1
    · refine ⟨((s * 48271 + 11) % 2147483647 / 7) % n, rowC ns (i + 1) ((s * 48271 + 11) % 2147483647) r, Int.emod_nonneg _ (by omega), Int.emod_lt_of_pos _ hn, ⟨i + 1, _, r, rfl, by omega, hr⟩, ?_⟩
      simp [run, f_taken, b_taken, startE, exs, ex, ev, getV, dataOf, boolOf, intOf, ofO, R.bind, rdW, cmpW, cmpD, binD, biD, ixW, rowC, atI_cell0, atI_cell1, atI_cell2, atI_cell3, h, h2, hn, hn2, subX, putL, setW_1, setW_2, setW_3, List.set]
    · have hl : i.toNat < ns.length := by omega
      have e1 : atI (ns.map PyData.int) i = some (.int ns[i.toNat]) := by
        unfold L2.atI
        rw [List.length_map, ixN_nat hi (by omega)]
        show (ns.map PyData.int)[i.toNat]? = _
        rw [List.getElem?_map, List.getElem?_eq_getElem hl]
        rfl
      generalize ns[i.toNat] = z at e1
      by_cases h3 : (1000000000000000000 : Int) ≤ z
      · refine ⟨z % n, rowC ns (i + 1) ((s * 48271 + z + 11) % 2147483647) (z / n), Int.emod_nonneg _ (by omega), Int.emod_lt_of_pos _ hn, ⟨i + 1, _, z / n, rfl, by omega, Int.ediv_nonneg (by omega) (by omega)⟩, ?_⟩
        simp [run, f_taken, b_taken, startE, exs, ex, ev, getV, dataOf, boolOf, intOf, ofO, R.bind, rdW, cmpW, cmpD, binD, biD, ixW, rowC, atI_cell0, atI_cell1, atI_cell2, atI_cell3, h, h2, h3, e1, hn, hn2, subX, putL, setW_1, setW_2, setW_3, List.set]
      · refine ⟨z % n, rowC ns (i + 1) ((s * 48271 + z + 11) % 2147483647) r, Int.emod_nonneg _ (by omega), Int.emod_lt_of_pos _ hn, ⟨i + 1, _, r, rfl, by omega, hr⟩, ?_⟩
        simp [run, f_taken, b_taken, startE, exs, ex, ev, getV, dataOf, boolOf, intOf, ofO, R.bind, rdW, cmpW, cmpD, binD, biD, ixW, rowC, atI_cell0, atI_cell1, atI_cell2, atI_cell3, h, h2, h3, e1, hn, hn2, subX, putL, setW_1, setW_2, setW_3, List.set]
/-- a draw among the items of a list -/
def b_pick (jt : Nat) : Ss := (.cons (.ret (.ix (.var 1) (.call jt (.cons (.var 0) (.cons (.bi .len (.var 1)) .nil))))) .nil)
def f_pick (jt : Nat) : Fn := ⟨2, 2, false, b_pick jt⟩
theorem pick_ok {T : Tab} {jt : Nat} (hT : ∃ T', T jt = run T' f_taken) (ns : List Int) {xs : List PyData} (h0 : 0 < xs.length) (h1 : xs.length < 1073741824) {c : Cell} (hc : RowS ns c) (g : List Cell) :
    ∃ x c', x ∈ xs ∧ RowS ns c' ∧ run T (f_pick jt) 0 [.l 0, .d (.list xs)] (c :: g) = .ok (.d x) (c' :: g) := by
  obtain ⟨T', hT⟩ := hT
  obtain ⟨v, c', hv0, hv1, hc', e⟩ := taken_ok T' ns (n := (xs.length : Int)) (by omega) (by omega) hc g
  have hl : v.toNat < xs.length := by omega
  have e1 : atI xs v = some xs[v.toNat] := by
    unfold L2.atI
    rw [ixN_nat hv0 (by omega)]
    exact List.getElem?_eq_getElem hl
  rw [← hT] at e
  refine ⟨xs[v.toNat], c', List.getElem_mem hl, hc', ?_⟩
  simp [run, f_pick, b_pick, startE, exs, ex, ev, evs, getV, dataOf, ofO, R.bind, rdW, biD, e, ixW, e1]
end PV
namespace PV
open PySem PySem.Spec PyProof.Rows L2
section
variable {T : TabP}
theorem P_cst {x} {ρ : EnvP} : evP T (.cst x) ρ = .ok (.d, x) := by first | (rw [evP]; done) | (rw [evP]; rfl)
theorem P_var {i} {ρ : EnvP} : evP T (.var i) ρ = getP ρ i := by first | (rw [evP]; done) | (rw [evP]; rfl)
theorem P_glob {q0 d} {ρ : EnvP} : evP T (.glob q0 d) ρ = .ok (.d, d) := by first | (rw [evP]; done) | (rw [evP]; rfl)
theorem P_tup {es} {ρ : EnvP} : evP T (.tup es) ρ = (evsP T es ρ).bind fun vs => (dsP vs).bind fun xs => ofP ((ssz xs).map fun xs => (.d, .tuple xs)) := by first | (rw [evP]; done) | (rw [evP]; rfl)
theorem P_lst {es} {ρ : EnvP} : evP T (.lst es) ρ = (evsP T es ρ).bind fun vs => (dsP vs).bind fun xs => ofP ((ssz xs).map fun xs => (.d, .list xs)) := by first | (rw [evP]; done) | (rw [evP]; rfl)
theorem P_lstM {es} {ρ : EnvP} : evP T (.lstM es) ρ = (evsP T es ρ).bind fun vs => (dsP vs).bind fun xs => ofP ((ssz xs).map fun xs => (.own, .list xs)) := by first | (rw [evP]; done) | (rw [evP]; rfl)
theorem P_bop {o x y} {ρ : EnvP} : evP T (.bop o x y) ρ = (evP T x ρ).bind fun u => (evP T y ρ).bind fun v => (dP u).bind fun u => (dP v).bind fun v => ofP ((binD o u v).map fun z => (.d, z)) := by first | (rw [evP]; done) | (rw [evP]; rfl)
theorem P_uop {o x} {ρ : EnvP} : evP T (.uop o x) ρ = (evP T x ρ).bind fun u => (dP u).bind fun u => ofP ((uopD o u).map fun z => (.d, z)) := by first | (rw [evP]; done) | (rw [evP]; rfl)
theorem P_cmp {o x y} {ρ : EnvP} : evP T (.cmp o x y) ρ = (evP T x ρ).bind fun u => (evP T y ρ).bind fun v => ofP ((cmpD o u.2 v.2).map fun c => (.d, .bool c)) := by first | (rw [evP]; done) | (rw [evP]; rfl)
theorem P_chn {o p x y z} {ρ : EnvP} : evP T (.chn o p x y z) ρ = (evP T x ρ).bind fun u => (evP T y ρ).bind fun v => (ofP (cmpD o u.2 v.2)).bind fun c => if c then (evP T z ρ).bind fun w => ofP ((cmpD p v.2 w.2).map fun c => (.d, .bool c)) else .ok (.d, .bool false) := by first | (rw [evP]; done) | (rw [evP]; rfl)
theorem P_and {x y} {ρ : EnvP} : evP T (.and x y) ρ = (evP T x ρ).bind fun u => (boolP u).bind fun c => if c then (evP T y ρ).bind fun v => (boolP v).bind fun d => .ok (.d, .bool d) else .ok (.d, .bool false) := by first | (rw [evP]; done) | (rw [evP]; rfl)
theorem P_or {x y} {ρ : EnvP} : evP T (.or x y) ρ = (evP T x ρ).bind fun u => (boolP u).bind fun c => if c then .ok (.d, .bool true) else (evP T y ρ).bind fun v => (boolP v).bind fun d => .ok (.d, .bool d) := by first | (rw [evP]; done) | (rw [evP]; rfl)
theorem P_not {x} {ρ : EnvP} : evP T (.not x) ρ = (evP T x ρ).bind fun u => (boolP u).bind fun c => .ok (.d, .bool (!c)) := by first | (rw [evP]; done) | (rw [evP]; rfl)
theorem P_ite {c x y} {ρ : EnvP} : evP T (.ite c x y) ρ = (evP T c ρ).bind fun u => (boolP u).bind fun c => if c then evP T x ρ else evP T y ρ := by first | (rw [evP]; done) | (rw [evP]; rfl)
theorem P_call {f es} {ρ : EnvP} : evP T (.call f es) ρ = (evsP T es ρ).bind fun vs => (T f (vs.map (·.2))).bind fun x => .ok (.d, x) := by first | (rw [evP]; done) | (rw [evP]; rfl)
theorem P_bi {p x} {ρ : EnvP} : evP T (.bi p x) ρ = (evP T x ρ).bind fun u => ofP ((biD p u.2).map fun z => (.d, z)) := by first | (rw [evP]; done) | (rw [evP]; rfl)
theorem P_isi {x t} {ρ : EnvP} : evP T (.isi x t) ρ = (evP T x ρ).bind fun u => .ok (.d, .bool (isiD t u.2)) := by first | (rw [evP]; done) | (rw [evP]; rfl)
theorem P_isiTL {x} {ρ : EnvP} : evP T (.isiTL x) ρ = (evP T x ρ).bind fun u => .ok (.d, .bool (isiD .tuple u.2 || isiD .list u.2)) := by first | (rw [evP]; done) | (rw [evP]; rfl)
theorem P_lrng {x} {ρ : EnvP} : evP T (.lrng x) ρ = (evP T x ρ).bind fun u => (intP u).bind fun i => ofP ((rngD i).map fun xs => (.d, .list xs)) := by first | (rw [evP]; done) | (rw [evP]; rfl)
theorem P_trng {x} {ρ : EnvP} : evP T (.trng x) ρ = (evP T x ρ).bind fun u => (intP u).bind fun i => ofP ((rngD i).map fun xs => (.d, .tuple xs)) := by first | (rw [evP]; done) | (rw [evP]; rfl)
theorem P_listM {x} {ρ : EnvP} : evP T (.listM x) ρ = (evP T x ρ).bind fun u => (match biD .list u.2 with
      | some (.list xs) => .ok (.own, .list xs)
      | _ => .bad) := by first | (rw [evP]; done) | (rw [evP]; rfl)
theorem P_mt {k x y} {ρ : EnvP} : evP T (.mt k x y) ρ = (evP T x ρ).bind fun u => if isQ u.2 then (evP T y ρ).bind fun v => ofP ((mtD k u.2 v.2).map fun z => (.d, z)) else .bad := by first | (rw [evP]; done) | (rw [evP]; rfl)
theorem P_ix {x y} {ρ : EnvP} : evP T (.ix x y) ρ = (evP T x ρ).bind fun u => (evP T y ρ).bind fun v => (dP v).bind fun v => ofP ((ixP u.2 v).map fun z => (.d, z)) := by first | (rw [evP]; done) | (rw [evP]; rfl)
theorem P_sl {x lo hi} {ρ : EnvP} : evP T (.sl x lo hi) ρ = (evP T x ρ).bind fun u => (evoP T lo ρ).bind fun l => (evoP T hi ρ).bind fun h => ofP ((slD u.2 l h).map fun z => (.d, z)) := by first | (rw [evP]; done) | (rw [evP]; rfl)
theorem X_asg {i e} {ρ : EnvP} : exP T (.asg i e) ρ = (evP T e ρ).bind fun v => (stP e v).bind fun v => .ok (.nx (ρ.set i (some v))) := by first | (rw [exP]; done) | (rw [exP]; rfl)
theorem X_par {i j a b} {ρ : EnvP} : exP T (.par i j a b) ρ = (evP T a ρ).bind fun u => (stP a u).bind fun u => (evP T b ρ).bind fun v => (stP b v).bind fun v => .ok (.nx ((ρ.set i (some u)).set j (some v))) := by first | (rw [exP]; done) | (rw [exP]; rfl)
theorem X_par3 {i j k a b c} {ρ : EnvP} : exP T (.par3 i j k a b c) ρ = (evP T a ρ).bind fun u => (stP a u).bind fun u => (evP T b ρ).bind fun v => (stP b v).bind fun v => (evP T c ρ).bind fun w => (stP c w).bind fun w => .ok (.nx (((ρ.set i (some u)).set j (some v)).set k (some w))) := by first | (rw [exP]; done) | (rw [exP]; rfl)
theorem X_sub {i b e} {ρ : EnvP} : exP T (.sub (.var i) b e) ρ = (evP T e ρ).bind fun w => (dP w).bind fun x => (getP ρ i).bind fun u => (evP T b ρ).bind fun v => (intP v).bind fun k => (match u.1 with
      | .own => (ofP (setP k x u.2)).bind fun y => .ok (.nx (ρ.set i (some (.own, y))))
      | _ => .bad) := by first | (rw [exP]; done) | (rw [exP]; rfl)
theorem X_aug {i e} {ρ : EnvP} : exP T (.aug i e) ρ = (getP ρ i).bind fun u => (intP u).bind fun i0 => (evP T e ρ).bind fun v => (intP v).bind fun j => .ok (.nx (ρ.set i (some (.d, .int (i0 + j))))) := by first | (rw [exP]; done) | (rw [exP]; rfl)
theorem X_append {i e} {ρ : EnvP} : exP T (.append i e) ρ = (getP ρ i).bind fun u => (match u.1 with
      | .own => (evP T e ρ).bind fun w => (dP w).bind fun x => (ofP (pushP x u.2)).bind fun y => .ok (.nx (ρ.set i (some (.own, y))))
      | _ => .bad) := by first | (rw [exP]; done) | (rw [exP]; rfl)
theorem X_ex {e} {ρ : EnvP} : exP T (.ex e) ρ = (evP T e ρ).bind fun _ => .ok (.nx ρ) := by first | (rw [exP]; done) | (rw [exP]; rfl)
theorem X_ite {c x y} {ρ : EnvP} : exP T (.ite c x y) ρ = (evP T c ρ).bind fun u => (boolP u).bind fun c => if c then exsP T x ρ else exsP T y ρ := by first | (rw [exP]; done) | (rw [exP]; rfl)
theorem X_loop {t i body} {ρ : EnvP} : exP T (.loop t i body) ρ = (forP1 T i ρ).bind fun xs => forP (fun ρ x => (ofP (tgP t x ρ)).bind fun ρ' => exsP T body ρ') xs ρ := by first | (rw [exP]; done) | (rw [exP]; rfl)
theorem X_while {n c body} {ρ : EnvP} : exP T (.while n c body) ρ = whlP (fun ρ => (evP T c ρ).bind fun w => boolP w) (fun ρ => exsP T body ρ) n ρ := by first | (rw [exP]; done) | (rw [exP]; rfl)
theorem X_ret {e} {ρ : EnvP} : exP T (.ret e) ρ = (evP T e ρ).bind fun w => .ok (.rt w) := by first | (rw [exP]; done) | (rw [exP]; rfl)
theorem X_retN {ρ : EnvP} : exP T (.retN ) ρ = .ok (.rt (.d, .none)) := by first | (rw [exP]; done) | (rw [exP]; rfl)
theorem X_raise {c} {ρ : EnvP} : exP T (.raise c) ρ = .exc c := by first | (rw [exP]; done) | (rw [exP]; rfl)
theorem X_pass {ρ : EnvP} : exP T (.pass ) ρ = .ok (.nx ρ) := by first | (rw [exP]; done) | (rw [exP]; rfl)
theorem X_never {ρ : EnvP} : exP T (.never ) ρ = .bad := by first | (rw [exP]; done) | (rw [exP]; rfl)
theorem A_nil {ρ : EnvP} : evsP T .nil ρ = .ok [] := by first | (rw [evsP]; done) | (rw [evsP]; rfl)
theorem A_cons {e : E} {r : Es} {ρ : EnvP} : evsP T (.cons e r) ρ = (evP T e ρ).bind fun w => (evsP T r ρ).bind fun ws => .ok (w :: ws) := by first | (rw [evsP]; done) | (rw [evsP]; rfl)
theorem A_star {e : E} {r : Es} {ρ : EnvP} : evsP T (.star e r) ρ = (evP T e ρ).bind fun w => (match w.2 with
      | .tuple xs => (evsP T r ρ).bind fun ws => .ok (xs.map (fun x => (Fg.d, x)) ++ ws)
      | .list xs => (evsP T r ρ).bind fun ws => .ok (xs.map (fun x => (Fg.d, x)) ++ ws)
      | _ => .bad) := by first | (rw [evsP]; done) | (rw [evsP]; rfl)
theorem C_no {ρ : EnvP} : evcP T .no ρ = .ok true := by first | (rw [evcP]; done) | (rw [evcP]; rfl)
theorem C_so {e : E} {ρ : EnvP} : evcP T (.so e) ρ = (evP T e ρ).bind fun w => boolP w := by first | (rw [evcP]; done) | (rw [evcP]; rfl)
theorem O_no {ρ : EnvP} : evoP T .no ρ = .ok none := by first | (rw [evoP]; done) | (rw [evoP]; rfl)
theorem O_so {e : E} {ρ : EnvP} : evoP T (.so e) ρ = (evP T e ρ).bind fun w => (intP w).bind fun i => .ok (some i) := by first | (rw [evoP]; done) | (rw [evoP]; rfl)
theorem I_ex {e : E} {ρ : EnvP} : eviP T (.ex e) ρ = (evP T e ρ).bind fun w => ofP (srcP w.2) := by first | (rw [eviP]; done) | (rw [eviP]; rfl)
theorem I_rng {e : E} {ρ : EnvP} : eviP T (.rng e) ρ = (evP T e ρ).bind fun w => (intP w).bind fun i => ofP (rngD i) := by first | (rw [eviP]; done) | (rw [eviP]; rfl)
theorem F_ex {e : E} {ρ : EnvP} : forP1 T (.ex e) ρ = (evP T e ρ).bind fun w => (notOwn w).bind fun w => ofP (srcP w.2) := by first | (rw [forP1]; done) | (rw [forP1]; rfl)
theorem F_rng {e : E} {ρ : EnvP} : forP1 T (.rng e) ρ = (evP T e ρ).bind fun w => (intP w).bind fun i => ofP (rngD i) := by first | (rw [forP1]; done) | (rw [forP1]; rfl)
theorem B_nil {ρ : EnvP} : exsP T .nil ρ = .ok (.nx ρ) := by first | (rw [exsP]; done) | (rw [exsP]; rfl)
theorem B_cons {s : S} {r : Ss} {ρ : EnvP} : exsP T (.cons s r) ρ = (exP T s ρ).bind fun f => (match f with
      | .nx ρ' => exsP T r ρ'
      | .rt w => .ok (.rt w)) := by first | (rw [exsP]; done) | (rw [exsP]; rfl)
theorem flP_ff {f : PyData → RQ (List PyData)} {p : PyData → Bool} {g : PyData → PyData} : ∀ {xs : List PyData}, (∀ x ∈ xs, f x = .ok (if p x then [g x] else [])) → flP f xs = .ok ((xs.filter p).map g)
  | [], _ => rfl
  | x :: r, h => by
    unfold flP
    rw [h x (by simp), flP_ff fun y hy => h y (by simp [hy])]
    show RQ.ok ((if p x then [g x] else []) ++ (r.filter p).map g) = _
    by_cases hp : p x = true
    · rw [if_pos hp, List.filter_cons_of_pos hp]; rfl
    · rw [if_neg hp, List.filter_cons_of_neg hp]; rfl
/-- a comprehension that filters and maps -/
theorem P_comp {e : E} {t : Tg} {i : It} {c : Oe} {own : List Nat} {ρ : EnvP} {xs : List PyData} {p : PyData → Bool} {g : PyData → PyData} (hi : eviP T i ρ = .ok xs) (h : ∀ x ∈ xs, cP t own (evcP T c) (evP T e) ρ x = .ok (if p x then [g x] else [])) (hl : xs.length ≤ lim) :
    evP T (.comp e t i c own) ρ = .ok (.d, .list ((xs.filter p).map g)) := by
  rw [evP, hi]
  show (flP (cP t own (evcP T c) (evP T e) ρ) xs).bind _ = _
  rw [flP_ff h]
  have : ((xs.filter p).map g).length ≤ lim := by rw [List.length_map]; exact Nat.le_trans (List.length_filter_le _ _) hl
  show ofP ((ssz ((xs.filter p).map g)).map fun l => (Fg.d, PyData.list l)) = _
  unfold ssz
  rw [if_pos this]
  rfl
theorem flP_map {α : Type} {f : PyData → RQ (List PyData)} {k : α → PyData} {p : α → Bool} {g : α → PyData} : ∀ {l : List α}, (∀ x ∈ l, f (k x) = .ok (if p x then [g x] else [])) → flP f (l.map k) = .ok ((l.filter p).map g)
  | [], _ => rfl
  | x :: r, h => by
    show flP f (k x :: r.map k) = _
    unfold flP
    rw [h x (by simp), flP_map fun y hy => h y (by simp [hy])]
    show RQ.ok ((if p x then [g x] else []) ++ (r.filter p).map g) = _
    by_cases hp : p x = true
    · rw [if_pos hp, List.filter_cons_of_pos hp]; rfl
    · rw [if_neg hp, List.filter_cons_of_neg hp]; rfl
theorem P_compN {α : Type} {l : List α} {k : α → PyData} {p : α → Bool} {g : α → PyData} {e : E} {t : Tg} {i : It} {c : Oe} {own : List Nat} {ρ : EnvP} (hi : eviP T i ρ = .ok (l.map k)) (h : ∀ x ∈ l, cP t own (evcP T c) (evP T e) ρ (k x) = .ok (if p x then [g x] else [])) (hl : l.length ≤ lim) :
    evP T (.comp e t i c own) ρ = .ok (.d, .list ((l.filter p).map g)) := by
  rw [evP, hi]
  show (flP (cP t own (evcP T c) (evP T e) ρ) (l.map k)).bind _ = _
  rw [flP_map h]
  have : ((l.filter p).map g).length ≤ lim := by rw [List.length_map]; exact Nat.le_trans (List.length_filter_le _ _) hl
  show ofP ((ssz ((l.filter p).map g)).map fun l => (Fg.d, PyData.list l)) = _
  unfold ssz
  rw [if_pos this]
  rfl
theorem forP_find {α : Type} {k : α → PyData} {f : EnvP → PyData → RQ FlP} {Inv : EnvP → Prop} {c : α → Bool} {v : α → VP} : ∀ (xs : List α) (ρ : EnvP), Inv ρ → (∀ x ∈ xs, ∀ ρ, Inv ρ → (c x = true → f ρ (k x) = .ok (.rt (v x))) ∧ (c x = false → ∃ ρ', f ρ (k x) = .ok (.nx ρ') ∧ Inv ρ')) →
    (∀ x, xs.find? c = some x → forP f (xs.map k) ρ = .ok (.rt (v x))) ∧ (xs.find? c = none → ∃ ρ', forP f (xs.map k) ρ = .ok (.nx ρ') ∧ Inv ρ')
  | [], ρ, hi, h => ⟨fun x e => (by cases e), fun _ => ⟨ρ, rfl, hi⟩⟩
  | y :: r, ρ, hi, h => by
    obtain ⟨h1, h2⟩ := h y (by simp) ρ hi
    cases hc : c y with
    | true =>
      refine ⟨fun x e => ?_, fun e => ?_⟩
      · rw [List.find?_cons_of_pos hc] at e
        cases e
        show forP f (k y :: r.map k) ρ = _
        unfold forP
        rw [h1 hc]
        rfl
      · rw [List.find?_cons_of_pos hc] at e
        cases e
    | false =>
      obtain ⟨ρ', e1, hi'⟩ := h2 hc
      have e2 : forP f ((y :: r).map k) ρ = forP f (r.map k) ρ' := by
        show ((f ρ (k y)).bind fun fl => (match fl with
          | .nx ρ' => forP f (r.map k) ρ'
          | .rt v => .ok (.rt v))) = _
        rw [e1]
        rfl
      rw [List.find?_cons_of_neg (by simp [hc]), e2]
      exact forP_find r ρ' hi' fun x hx => h x (by simp [hx])
theorem filter_all {α : Type} (l : List α) : l.filter (fun _ => true) = l := by induction l <;> simp_all
end
/-! ### alike -/
def b_alike (jp : Nat) : Ss := (.cons (.ite (.isiTL (.var 1)) (.cons (.ite (.or (.not (.isiTL (.var 0))) (.cmp .ne (.isi (.var 0) .list) (.isi (.var 1) .list))) (.cons (.ret (.cst (.bool false))) .nil) .nil) (.cons (.ite (.cmp .ne (.bi .len (.var 0)) (.bi .len (.var 1))) (.cons (.ret (.cst (.bool false))) .nil) .nil) (.cons (.ret (.cmp .eq (.comp (.var 2) (.name 2) (.rng (.bi .len (.var 1))) (.so (.not (.call jp (.cons (.ix (.var 0) (.var 2)) (.cons (.ix (.var 1) (.var 2)) .nil))))) [2]) (.lst .nil))) .nil))) .nil) (.cons (.ite (.or (.cmp .isN (.var 1) (.cst .none)) (.isi (.var 1) .str)) (.cons (.ret (.and (.cmp .eq (.var 0) (.var 1)) (.cmp .eq (.isi (.var 0) .str) (.isi (.var 1) .str)))) .nil) .nil) (.cons (.ret (.and (.isi (.var 0) .int) (.and (.cmp .eq (.isi (.var 0) .bool) (.isi (.var 1) .bool)) (.cmp .eq (.var 0) (.var 1))))) .nil)))
def f_alike (jp : Nat) : Fn := ⟨2, 3, true, b_alike jp⟩
def iN (p : Nat) : PyData := .int (p : Int)
theorem cmp_nil {L : List PyData} : cmpD .eq (.list L) (.list []) = some (PyData.eqv (.list L) (.list [])) := by
  show (if min (PyData.list L).depth (PyData.list []).depth ≤ 64 then some (PyData.eqv (.list L) (.list [])) else none) = _
  rw [if_pos (Nat.le_trans (Nat.min_le_right _ _) (by simp [PyData.depth, PyData.depthAll]))]
theorem cmp_nilN {L : List PyData} : cmpD .ne (.list L) (.list []) = some (!PyData.eqv (.list L) (.list [])) := by
  show (if min (PyData.list L).depth (PyData.list []).depth ≤ 64 then some (!PyData.eqv (.list L) (.list [])) else none) = _
  rw [if_pos (Nat.le_trans (Nat.min_le_right _ _) (by simp [PyData.depth, PyData.depthAll]))]
theorem atI_iN {α : Type} {xs : List α} {p : Nat} (h : p < xs.length) : L2.atI xs (p : Int) = some xs[p] := by
  unfold L2.atI
  rw [ixN_nat (by omega) (by omega)]
  exact List.getElem?_eq_getElem h
theorem alike_int (T : TabP) (jp : Nat) (i : Int) : runP T (f_alike jp) [.int i, .int i] = .ok (.bool true) := by
  simp [runP, f_alike, b_alike, startP, B_cons, B_nil, X_ite, X_ret, P_isiTL, P_isi, P_or, P_and, P_cmp, P_cst, P_var, getP, RQ.bind, ofP, boolP, isiD, cmpD, isNone, PyData.depth, PyData.eqv, rtP]
theorem alike_none (T : TabP) (jp : Nat) : runP T (f_alike jp) [.none, .none] = .ok (.bool true) := by
  simp [runP, f_alike, b_alike, startP, B_cons, B_nil, X_ite, X_ret, P_isiTL, P_isi, P_or, P_and, P_cmp, P_cst, P_var, getP, RQ.bind, ofP, boolP, isiD, cmpD, isNone, PyData.depth, PyData.eqv, rtP]
theorem alike_tup {T : TabP} {jp : Nat} {xs : List PyData} (h : ∀ x ∈ xs, T jp [x, x] = .ok (.bool true)) (hl : xs.length ≤ lim) : runP T (f_alike jp) [.tuple xs, .tuple xs] = .ok (.bool true) := by
  have hr : rngD (xs.length : Int) = some ((List.range xs.length).map iN) := by
    unfold rngD
    have : (xs.length : Int) ≤ 100000 := by have : lim = 100000 := rfl; omega
    rw [if_pos ⟨by omega, this⟩]
    simp [iN]
  have e1 : evP T (.comp (.var 2) (.name 2) (.rng (.bi .len (.var 1))) (.so (.not (.call jp (.cons (.ix (.var 0) (.var 2)) (.cons (.ix (.var 1) (.var 2)) .nil))))) [2]) [some (.arg, .tuple xs), some (.arg, .tuple xs), none] = .ok (.d, .list []) := by
    have := P_compN (T := T) (l := List.range xs.length) (k := iN) (p := fun _ => false) (g := iN) (e := .var 2) (t := .name 2) (i := .rng (.bi .len (.var 1))) (c := .so (.not (.call jp (.cons (.ix (.var 0) (.var 2)) (.cons (.ix (.var 1) (.var 2)) .nil))))) (own := [2]) (ρ := [some (.arg, .tuple xs), some (.arg, .tuple xs), none])
      (by simp [I_rng, P_bi, P_var, getP, RQ.bind, biD, ofP, intP, hr]) (fun p hp => by
        have hp : p < xs.length := by simpa using hp
        simp [cP, tgP, wipeP, ofP, RQ.bind, RQ.nox, C_so, P_not, P_call, A_cons, A_nil, P_ix, P_var, getP, dP, isL, iN, ixP, atI_iN hp, h xs[p] (List.getElem_mem hp), boolP]) (by simpa using hl)
    rw [this]
    simp
  simp [runP, f_alike, b_alike, startP, B_cons, B_nil, X_ite, X_ret, P_isiTL, P_isi, P_or, P_not, P_cmp, P_cst, P_var, P_bi, P_lst, A_nil, getP, RQ.bind, ofP, boolP, isiD, cmp_nil, biD, cmpD, PyData.depth, PyData.eqv, PyData.eqvAll, rtP, e1, dsP, ssz, PyData.depthAll]
end PV
namespace PV
namespace K00
open PySem PySem.Spec PyProof.Rows L2
-- printed by gen.py for law k00
def top (i : Nat) : Stmt := PySem.Challenge.pw_dealclashes_k00_whole_rows.main.body.getD i (.Pass ⟨0, 0, 0, 0⟩)
def b_law_alike_1 : Ss := (.cons .never (.cons .never (.cons .never .nil)))
def d_law_alike_1 : Df := ⟨"_law_alike", top 27, ["_law_found", "_law_due", "_law_k"], ⟨2, 3, true, b_law_alike_1⟩⟩
def b_law_alike_2 : Ss := (.cons (.ite (.isiTL (.var 1)) (.cons (.ite (.or (.not (.isiTL (.var 0))) (.cmp .ne (.isi (.var 0) .list) (.isi (.var 1) .list))) (.cons (.ret (.cst (.bool false))) .nil) .nil) (.cons (.ite (.cmp .ne (.bi .len (.var 0)) (.bi .len (.var 1))) (.cons (.ret (.cst (.bool false))) .nil) .nil) (.cons (.ret (.cmp .eq (.comp (.var 2) (.name 2) (.rng (.bi .len (.var 1))) (.so (.not (.call 0 (.cons (.ix (.var 0) (.var 2)) (.cons (.ix (.var 1) (.var 2)) .nil))))) [2]) (.lst .nil))) .nil))) .nil) (.cons (.ite (.or (.cmp .isN (.var 1) (.cst .none)) (.isi (.var 1) .str)) (.cons (.ret (.and (.cmp .eq (.var 0) (.var 1)) (.cmp .eq (.isi (.var 0) .str) (.isi (.var 1) .str)))) .nil) .nil) (.cons (.ret (.and (.isi (.var 0) .int) (.and (.cmp .eq (.isi (.var 0) .bool) (.isi (.var 1) .bool)) (.cmp .eq (.var 0) (.var 1))))) .nil)))
def d_law_alike_2 : Df := ⟨"_law_alike", top 27, ["_law_found", "_law_due", "_law_k"], ⟨2, 3, true, b_law_alike_2⟩⟩
def b_law_alike_3 : Ss := (.cons (.ite (.isiTL (.var 1)) (.cons (.ite (.or (.not (.isiTL (.var 0))) (.cmp .ne (.isi (.var 0) .list) (.isi (.var 1) .list))) (.cons (.ret (.cst (.bool false))) .nil) .nil) (.cons (.ite (.cmp .ne (.bi .len (.var 0)) (.bi .len (.var 1))) (.cons (.ret (.cst (.bool false))) .nil) .nil) (.cons (.ret (.cmp .eq (.comp (.var 2) (.name 2) (.rng (.bi .len (.var 1))) (.so (.not (.call 1 (.cons (.ix (.var 0) (.var 2)) (.cons (.ix (.var 1) (.var 2)) .nil))))) [2]) (.lst .nil))) .nil))) .nil) (.cons (.ite (.or (.cmp .isN (.var 1) (.cst .none)) (.isi (.var 1) .str)) (.cons (.ret (.and (.cmp .eq (.var 0) (.var 1)) (.cmp .eq (.isi (.var 0) .str) (.isi (.var 1) .str)))) .nil) .nil) (.cons (.ret (.and (.isi (.var 0) .int) (.and (.cmp .eq (.isi (.var 0) .bool) (.isi (.var 1) .bool)) (.cmp .eq (.var 0) (.var 1))))) .nil)))
def d_law_alike_3 : Df := ⟨"_law_alike", top 27, ["_law_found", "_law_due", "_law_k"], ⟨2, 3, true, b_law_alike_3⟩⟩
def b_law_alike_4 : Ss := (.cons (.ite (.isiTL (.var 1)) (.cons (.ite (.or (.not (.isiTL (.var 0))) (.cmp .ne (.isi (.var 0) .list) (.isi (.var 1) .list))) (.cons (.ret (.cst (.bool false))) .nil) .nil) (.cons (.ite (.cmp .ne (.bi .len (.var 0)) (.bi .len (.var 1))) (.cons (.ret (.cst (.bool false))) .nil) .nil) (.cons (.ret (.cmp .eq (.comp (.var 2) (.name 2) (.rng (.bi .len (.var 1))) (.so (.not (.call 2 (.cons (.ix (.var 0) (.var 2)) (.cons (.ix (.var 1) (.var 2)) .nil))))) [2]) (.lst .nil))) .nil))) .nil) (.cons (.ite (.or (.cmp .isN (.var 1) (.cst .none)) (.isi (.var 1) .str)) (.cons (.ret (.and (.cmp .eq (.var 0) (.var 1)) (.cmp .eq (.isi (.var 0) .str) (.isi (.var 1) .str)))) .nil) .nil) (.cons (.ret (.and (.isi (.var 0) .int) (.and (.cmp .eq (.isi (.var 0) .bool) (.isi (.var 1) .bool)) (.cmp .eq (.var 0) (.var 1))))) .nil)))
def d_law_alike_4 : Df := ⟨"_law_alike", top 27, ["_law_found", "_law_due", "_law_k"], ⟨2, 3, true, b_law_alike_4⟩⟩
def b_law_alike_5 : Ss := (.cons (.ite (.isiTL (.var 1)) (.cons (.ite (.or (.not (.isiTL (.var 0))) (.cmp .ne (.isi (.var 0) .list) (.isi (.var 1) .list))) (.cons (.ret (.cst (.bool false))) .nil) .nil) (.cons (.ite (.cmp .ne (.bi .len (.var 0)) (.bi .len (.var 1))) (.cons (.ret (.cst (.bool false))) .nil) .nil) (.cons (.ret (.cmp .eq (.comp (.var 2) (.name 2) (.rng (.bi .len (.var 1))) (.so (.not (.call 3 (.cons (.ix (.var 0) (.var 2)) (.cons (.ix (.var 1) (.var 2)) .nil))))) [2]) (.lst .nil))) .nil))) .nil) (.cons (.ite (.or (.cmp .isN (.var 1) (.cst .none)) (.isi (.var 1) .str)) (.cons (.ret (.and (.cmp .eq (.var 0) (.var 1)) (.cmp .eq (.isi (.var 0) .str) (.isi (.var 1) .str)))) .nil) .nil) (.cons (.ret (.and (.isi (.var 0) .int) (.and (.cmp .eq (.isi (.var 0) .bool) (.isi (.var 1) .bool)) (.cmp .eq (.var 0) (.var 1))))) .nil)))
def d_law_alike_5 : Df := ⟨"_law_alike", top 27, ["_law_found", "_law_due", "_law_k"], ⟨2, 3, true, b_law_alike_5⟩⟩
def b_law_taken : Ss := (.cons (.ite (.cmp .gt (.ix (.var 0) (.cst (.int 3))) (.cst (.int 0))) (.cons (.asg 3 (.bop .mod (.bi .int (.ix (.var 0) (.cst (.int 3)))) (.var 1))) (.cons (.sub (.var 0) (.cst (.int 3)) (.bop .fdiv (.ix (.var 0) (.cst (.int 3))) (.var 1))) (.cons (.ret (.var 3)) .nil))) .nil) (.cons (.sub (.var 0) (.cst (.int 1)) (.bop .add (.ix (.var 0) (.cst (.int 1))) (.cst (.int 1)))) (.cons (.ite (.cmp .gt (.ix (.var 0) (.cst (.int 1))) (.bi .len (.ix (.var 0) (.cst (.int 0))))) (.cons (.sub (.var 0) (.cst (.int 2)) (.bop .mod (.bi .int (.bop .add (.bop .mul (.ix (.var 0) (.cst (.int 2))) (.cst (.int 48271))) (.cst (.int 11)))) (.cst (.int 2147483647)))) (.cons (.ret (.bop .mod (.bi .int (.bop .fdiv (.ix (.var 0) (.cst (.int 2))) (.cst (.int 7)))) (.var 1))) .nil)) .nil) (.cons (.asg 2 (.ix (.ix (.var 0) (.cst (.int 0))) (.bop .sub (.ix (.var 0) (.cst (.int 1))) (.cst (.int 1))))) (.cons (.sub (.var 0) (.cst (.int 2)) (.bop .mod (.bi .int (.bop .add (.bop .add (.bop .mul (.ix (.var 0) (.cst (.int 2))) (.cst (.int 48271))) (.var 2)) (.cst (.int 11)))) (.cst (.int 2147483647)))) (.cons (.ite (.cmp .ge (.var 2) (.bop .pow (.cst (.int 10)) (.cst (.int 18)))) (.cons (.sub (.var 0) (.cst (.int 3)) (.bop .fdiv (.var 2) (.var 1))) .nil) .nil) (.cons (.ret (.bop .mod (.bi .int (.var 2)) (.var 1))) .nil)))))))
def d_law_taken : Df := ⟨"_law_taken", top 25, ["_law_row", "_law_many", "_law_cell", "_law_found"], ⟨2, 4, false, b_law_taken⟩⟩
def b_law_pick : Ss := (.cons (.ret (.ix (.var 1) (.call 5 (.cons (.var 0) (.cons (.bi .len (.var 1)) .nil))))) .nil)
def d_law_pick : Df := ⟨"_law_pick", top 26, ["_law_row", "_law_kinds"], ⟨2, 2, false, b_law_pick⟩⟩
def b_is_integer : Ss := (.cons (.ret (.and (.isi (.var 0) .int) (.not (.isi (.var 0) .bool)))) .nil)
def d_is_integer : Df := ⟨"is_integer", top 7, ["value"], ⟨1, 1, true, b_is_integer⟩⟩
def b_is_order : Ss := (.cons (.ite (.or (.not (.isi (.var 0) .tuple)) (.or (.cmp .ne (.bi .len (.var 0)) (.var 1)) (.not (.bi .all (.comp (.call 7 (.cons (.var 2) .nil)) (.name 2) (.ex (.var 0)) .no [2]))))) (.cons (.ret (.cst (.bool false))) .nil) .nil) (.cons (.ret (.cmp .eq (.bi .sorted (.var 0)) (.lrng (.var 1)))) .nil))
def d_is_order : Df := ⟨"is_order", top 13, ["value", "many", "one"], ⟨2, 3, true, b_is_order⟩⟩
def b_need_row : Ss := (.cons (.ite (.or (.not (.isi (.var 0) .tuple)) (.or (.cmp .nmem (.bi .len (.var 0)) (.tup (.cons (.cst (.int 2)) (.cons (.cst (.int 3)) .nil)))) (.not (.bi .all (.comp (.call 8 (.cons (.var 1) (.cons (.bi .len (.var 0)) .nil))) (.name 1) (.ex (.var 0)) .no [1]))))) (.cons .never .nil) .nil) .nil)
def d_need_row : Df := ⟨"need_row", top 14, ["row", "one"], ⟨1, 2, true, b_need_row⟩⟩
def b_need_dealing : Ss := (.cons (.ex (.call 9 (.cons (.var 0) .nil))) (.cons (.ite (.and (.not (.call 8 (.cons (.var 1) (.cons (.cst (.int 2)) .nil)))) (.not (.call 8 (.cons (.var 1) (.cons (.cst (.int 3)) .nil))))) (.cons .never .nil) .nil) (.cons (.ite (.cmp .ne (.bi .len (.var 1)) (.bi .len (.var 0))) (.cons .never .nil) .nil) .nil)))
def d_need_dealing : Df := ⟨"need_dealing", top 15, ["row", "dealing"], ⟨2, 2, true, b_need_dealing⟩⟩
def b_groups_of : Ss := (.cons (.asg 1 (.lst (.cons (.tup .nil) .nil))) (.cons (.loop (.name 2) (.rng (.var 0)) (.cons (.asg 1 (.bop .add (.var 1) (.comp (.tup (.star (.var 4) (.cons (.var 2) .nil))) (.name 4) (.ex (.var 1)) .no [4]))) .nil)) (.cons (.ret (.comp (.var 4) (.pair 3 4) (.ex (.bi .sorted (.comp (.tup (.cons (.bi .len (.var 4)) (.cons (.var 4) .nil))) (.name 4) (.ex (.var 1)) .no [4]))) (.so (.cmp .gt (.var 3) (.cst (.int 0)))) [3, 4])) .nil)))
def d_groups_of : Df := ⟨"groups_of", top 20, ["people", "found", "person", "size", "group"], ⟨1, 5, true, b_groups_of⟩⟩
def b_is_ahead : Ss := (.cons (.ret (.cmp .lt (.mt .index (.var 0) (.var 1)) (.mt .index (.var 0) (.var 2)))) .nil)
def d_is_ahead : Df := ⟨"is_ahead", top 16, ["ranking", "one", "other"], ⟨3, 3, true, b_is_ahead⟩⟩
def b_is_better : Ss := (.cons (.ite (.bi .any (.comp (.call 12 (.cons (.ix (.var 0) (.var 4)) (.cons (.ix (.var 2) (.var 4)) (.cons (.ix (.var 1) (.var 4)) .nil)))) (.name 4) (.ex (.var 3)) .no [4])) (.cons (.ret (.cst (.bool false))) .nil) .nil) (.cons (.ret (.bi .any (.comp (.cmp .ne (.ix (.var 1) (.var 4)) (.ix (.var 2) (.var 4))) (.name 4) (.ex (.var 3)) .no [4]))) .nil))
def d_is_better : Df := ⟨"is_better", top 17, ["row", "dealing", "other", "group", "person"], ⟨4, 5, true, b_is_better⟩⟩
def b_orders_of : Ss := (.cons (.asg 1 (.lst (.cons (.tup .nil) .nil))) (.cons (.loop (.name 2) (.rng (.var 0)) (.cons (.asg 1 (.comp2 (.tup (.star (.sl (.var 3) .no (.so (.var 4))) (.cons (.var 2) (.star (.sl (.var 3) (.so (.var 4)) .no) .nil)))) (.name 3) (.ex (.var 1)) .no (.name 4) (.rng (.bop .add (.bi .len (.var 3)) (.cst (.int 1)))) .no [3, 4] [4])) .nil)) (.cons (.ret (.bi .sorted (.var 1))) .nil)))
def d_orders_of : Df := ⟨"orders_of", top 9, ["many", "found", "number", "one", "at"], ⟨1, 5, true, b_orders_of⟩⟩
def b_own_dealings : Ss := (.cons (.asg 2 (.comp (.var 5) (.name 5) (.rng (.var 0)) (.so (.cmp .nmem (.var 5) (.var 1))) [5])) (.cons (.asg 3 (.lstM .nil)) (.cons (.loop (.name 4) (.ex (.call 14 (.cons (.var 0) .nil))) (.cons (.ite (.and (.bi .all (.comp (.cmp .mem (.ix (.var 4) (.var 5)) (.var 1)) (.name 5) (.ex (.var 1)) .no [5])) (.bi .all (.comp (.cmp .eq (.ix (.var 4) (.var 5)) (.var 5)) (.name 5) (.ex (.var 2)) .no [5]))) (.cons (.append 3 (.var 4)) .nil) .nil) .nil)) (.cons (.ret (.var 3)) .nil))))
def d_own_dealings : Df := ⟨"own_dealings", top 21, ["people", "group", "rest", "found", "one", "person"], ⟨2, 6, true, b_own_dealings⟩⟩
def b_blocker : Ss := (.cons (.loop (.name 2) (.ex (.call 11 (.cons (.bi .len (.var 0)) .nil))) (.cons (.ite (.bi .any (.comp (.call 13 (.cons (.var 0) (.cons (.var 3) (.cons (.var 1) (.cons (.var 2) .nil))))) (.name 3) (.ex (.call 15 (.cons (.bi .len (.var 0)) (.cons (.var 2) .nil)))) .no [3])) (.cons (.ret (.var 2)) .nil) .nil) .nil)) (.cons (.ret (.cst .none)) .nil))
def d_blocker : Df := ⟨"blocker", top 22, ["row", "dealing", "group", "one"], ⟨2, 4, true, b_blocker⟩⟩
def b_blocking_group : Ss := (.cons (.ex (.call 10 (.cons (.var 0) (.cons (.var 1) .nil)))) (.cons (.ret (.call 16 (.cons (.var 0) (.cons (.var 1) .nil)))) .nil))
def d_blocking_group : Df := ⟨"blocking_group", top 23, ["row", "dealing"], ⟨2, 2, true, b_blocking_group⟩⟩
def b_law_orders : Ss := (.cons (.asg 1 (.lst (.cons (.tup .nil) .nil))) (.cons (.loop (.name 2) (.rng (.var 0)) (.cons (.asg 3 (.lst .nil)) (.cons (.loop (.name 4) (.ex (.var 1)) (.cons (.asg 3 (.bop .add (.var 3) (.comp (.bop .add (.var 4) (.tup (.cons (.var 5) .nil))) (.name 5) (.rng (.var 0)) (.so (.cmp .nmem (.var 5) (.var 4))) [5]))) .nil)) (.cons (.asg 1 (.var 3)) .nil)))) (.cons (.ret (.var 1)) .nil)))
def d_law_orders : Df := ⟨"_law_orders", top 28, ["_law_many", "_law_found", "_law_turn", "_law_longer", "_law_one", "_law_number"], ⟨1, 6, true, b_law_orders⟩⟩
def b_law_before : Ss := (.cons (.ret (.cmp .lt (.mt .index (.var 0) (.var 1)) (.mt .index (.var 0) (.var 2)))) .nil)
def d_law_before : Df := ⟨"_law_before", top 30, ["_law_ranking", "_law_one", "_law_other"], ⟨3, 3, true, b_law_before⟩⟩
def b_law_gains : Ss := (.cons (.asg 4 (.comp (.var 5) (.name 5) (.ex (.var 3)) (.so (.call 19 (.cons (.ix (.var 0) (.var 5)) (.cons (.ix (.var 2) (.var 5)) (.cons (.ix (.var 1) (.var 5)) .nil))))) [5])) (.cons (.ret (.and (.cmp .eq (.var 4) (.lst .nil)) (.cmp .ne (.comp (.var 5) (.name 5) (.ex (.var 3)) (.so (.cmp .ne (.ix (.var 1) (.var 5)) (.ix (.var 2) (.var 5)))) [5]) (.lst .nil)))) .nil))
def d_law_gains : Df := ⟨"_law_gains", top 31, ["_law_row", "_law_dealing", "_law_other", "_law_group", "_law_worse", "_law_who"], ⟨4, 6, true, b_law_gains⟩⟩
def b_law_blocker : Ss := (.cons (.par 4 5 (.lrng (.bi .len (.var 0))) (.lst (.cons (.tup (.cons (.cst (.int 0)) .nil)) (.cons (.tup (.cons (.cst (.int 1)) .nil)) (.cons (.tup (.cons (.cst (.int 0)) (.cons (.cst (.int 1)) .nil))) .nil))))) (.cons (.ite (.cmp .eq (.bi .len (.var 0)) (.cst (.int 3))) (.cons (.asg 5 (.lst (.cons (.tup (.cons (.cst (.int 0)) .nil)) (.cons (.tup (.cons (.cst (.int 1)) .nil)) (.cons (.tup (.cons (.cst (.int 2)) .nil)) (.cons (.tup (.cons (.cst (.int 0)) (.cons (.cst (.int 1)) .nil))) (.cons (.tup (.cons (.cst (.int 0)) (.cons (.cst (.int 2)) .nil))) (.cons (.tup (.cons (.cst (.int 1)) (.cons (.cst (.int 2)) .nil))) (.cons (.tup (.cons (.cst (.int 0)) (.cons (.cst (.int 1)) (.cons (.cst (.int 2)) .nil)))) .nil))))))))) .nil) .nil) (.cons (.asg 2 (.comp (.var 6) (.name 6) (.ex (.call 18 (.cons (.bi .len (.var 0)) .nil))) (.so (.cmp .ne (.var 6) (.var 1))) [6])) (.cons (.loop (.name 3) (.ex (.var 5)) (.cons (.loop (.name 6) (.ex (.var 2)) (.cons (.ite (.and (.call 20 (.cons (.var 0) (.cons (.var 6) (.cons (.var 1) (.cons (.var 3) .nil))))) (.cmp .eq (.bi .sorted (.comp (.ix (.var 6) (.var 7)) (.name 7) (.ex (.var 3)) .no [7])) (.bi .list (.var 3)))) (.cons (.ite (.cmp .eq (.comp (.var 7) (.name 7) (.ex (.var 4)) (.so (.and (.cmp .nmem (.var 7) (.var 3)) (.cmp .ne (.ix (.var 6) (.var 7)) (.var 7)))) [7]) (.lst .nil)) (.cons (.ret (.var 3)) .nil) .nil) .nil) .nil) .nil)) .nil)) (.cons (.ret (.cst .none)) .nil)))))
def d_law_blocker : Df := ⟨"_law_blocker", top 33, ["_law_row", "_law_dealing", "_law_some", "_law_group", "_law_people", "_law_groups", "_law_one", "_law_who"], ⟨2, 8, true, b_law_blocker⟩⟩
def b_law_rows : Ss := (.cons (.asg 1 (.lst (.cons (.tup .nil) .nil))) (.cons (.loop (.name 2) (.rng (.var 0)) (.cons (.asg 3 (.lst .nil)) (.cons (.loop (.name 4) (.ex (.var 1)) (.cons (.asg 3 (.bop .add (.var 3) (.comp (.bop .add (.var 4) (.tup (.cons (.var 5) .nil))) (.name 5) (.ex (.call 18 (.cons (.var 0) .nil))) .no [5]))) .nil)) (.cons (.asg 1 (.var 3)) .nil)))) (.cons (.ret (.var 1)) .nil)))
def d_law_rows : Df := ⟨"_law_rows", top 29, ["_law_people", "_law_found", "_law_turn", "_law_longer", "_law_one", "_law_ranking"], ⟨1, 6, true, b_law_rows⟩⟩
def b_better_of : Ss := (.cons (.asg 2 (.lrng (.bi .len (.var 0)))) (.cons (.ret (.comp (.var 3) (.name 3) (.ex (.call 14 (.cons (.bi .len (.var 0)) .nil))) (.so (.call 13 (.cons (.var 0) (.cons (.var 3) (.cons (.var 1) (.cons (.var 2) .nil)))))) [3])) .nil))
def d_better_of : Df := ⟨"better_of", top 18, ["row", "dealing", "everybody", "one"], ⟨2, 4, true, b_better_of⟩⟩
def b_better : Ss := (.cons (.ex (.call 10 (.cons (.var 0) (.cons (.var 1) .nil)))) (.cons (.ret (.bi .tuple (.call 23 (.cons (.var 0) (.cons (.var 1) .nil))))) .nil))
def d_better : Df := ⟨"better", top 19, ["row", "dealing"], ⟨2, 2, true, b_better⟩⟩
def b_need_people : Ss := (.cons (.ite (.or (.not (.call 7 (.cons (.var 0) .nil))) (.cmp .nmem (.var 0) (.tup (.cons (.cst (.int 2)) (.cons (.cst (.int 3)) .nil))))) (.cons .never .nil) .nil) .nil)
def d_need_people : Df := ⟨"need_people", top 8, ["people"], ⟨1, 1, true, b_need_people⟩⟩
def b_dealings : Ss := (.cons (.ex (.call 25 (.cons (.var 0) .nil))) (.cons (.ret (.bi .tuple (.call 14 (.cons (.var 0) .nil)))) .nil))
def d_dealings : Df := ⟨"dealings", top 10, ["people"], ⟨1, 1, true, b_dealings⟩⟩
def b_rows_of : Ss := (.cons (.asg 1 (.lst (.cons (.tup .nil) .nil))) (.cons (.loop (.name 2) (.rng (.var 0)) (.cons (.asg 1 (.comp2 (.tup (.star (.var 3) (.cons (.var 4) .nil))) (.name 3) (.ex (.var 1)) .no (.name 4) (.ex (.call 14 (.cons (.var 0) .nil))) .no [3, 4] [4])) .nil)) (.cons (.ret (.var 1)) .nil)))
def d_rows_of : Df := ⟨"rows_of", top 11, ["people", "found", "person", "row", "ranking"], ⟨1, 5, true, b_rows_of⟩⟩
def b_rows : Ss := (.cons (.ex (.call 25 (.cons (.var 0) .nil))) (.cons (.ret (.bi .tuple (.call 27 (.cons (.var 0) .nil)))) .nil))
def d_rows : Df := ⟨"rows", top 12, ["people"], ⟨1, 1, true, b_rows⟩⟩
def b_law_better : Ss := (.cons (.ret (.comp (.var 2) (.name 2) (.ex (.call 18 (.cons (.bi .len (.var 0)) .nil))) (.so (.call 20 (.cons (.var 0) (.cons (.var 2) (.cons (.var 1) (.cons (.lrng (.bi .len (.var 0))) .nil)))))) [2])) .nil)
def d_law_better : Df := ⟨"_law_better", top 32, ["_law_row", "_law_dealing", "_law_one"], ⟨2, 3, true, b_law_better⟩⟩
def b_law : Ss := (.cons (.asg 1 (.lstM (.cons (.var 0) (.cons (.cst (.int 0)) (.cons (.cst (.int 15720)) (.cons (.cst (.int 0)) .nil)))))) (.cons (.asg 2 (.bop .add (.cst (.int 2)) (.call 5 (.cons (.var 1) (.cons (.cst (.int 2)) .nil))))) (.cons (.ite (.or (.not (.call 4 (.cons (.call 26 (.cons (.var 2) .nil)) (.cons (.bi .tuple (.call 18 (.cons (.var 2) .nil))) .nil)))) (.not (.call 4 (.cons (.call 28 (.cons (.var 2) .nil)) (.cons (.bi .tuple (.call 22 (.cons (.var 2) .nil))) .nil))))) (.cons (.ret (.cst (.bool false))) .nil) .nil) (.cons (.par 3 4 (.call 6 (.cons (.var 1) (.cons (.call 22 (.cons (.var 2) .nil)) .nil))) (.call 6 (.cons (.var 1) (.cons (.call 18 (.cons (.var 2) .nil)) .nil)))) (.cons (.ite (.not (.call 4 (.cons (.call 24 (.cons (.var 3) (.cons (.var 4) .nil))) (.cons (.bi .tuple (.call 29 (.cons (.var 3) (.cons (.var 4) .nil)))) .nil)))) (.cons (.ret (.cst (.bool false))) .nil) .nil) (.cons (.ret (.call 4 (.cons (.call 17 (.cons (.var 3) (.cons (.var 4) .nil))) (.cons (.call 21 (.cons (.var 3) (.cons (.var 4) .nil))) .nil)))) .nil))))))
def d_law : Df := ⟨"law", top 34, ["_law_script", "_law_row", "_law_people", "_law_one", "_law_dealing"], ⟨1, 5, true, b_law⟩⟩
def ds : List Df := [d_law_alike_1, d_law_alike_2, d_law_alike_3, d_law_alike_4, d_law_alike_5, d_law_taken, d_law_pick, d_is_integer, d_is_order, d_need_row, d_need_dealing, d_groups_of, d_is_ahead, d_is_better, d_orders_of, d_own_dealings, d_blocker, d_blocking_group, d_law_orders, d_law_before, d_law_gains, d_law_blocker, d_law_rows, d_better_of, d_better, d_need_people, d_dealings, d_rows_of, d_rows, d_law_better]
abbrev dl : Df := d_law
-- index of each def: law_alike_1 0, law_alike_2 1, law_alike_3 2, law_alike_4 3, law_alike_5 4, law_taken 5, law_pick 6, is_integer 7, is_order 8, need_row 9, need_dealing 10, groups_of 11, is_ahead 12, is_better 13, orders_of 14, own_dealings 15, blocker 16, blocking_group 17, law_orders 18, law_before 19, law_gains 20, law_blocker 21, law_rows 22, better_of 23, better 24, need_people 25, dealings 26, rows_of 27, rows 28, law_better 29, law 30
end K00
end PV
namespace PV
namespace K00
open PySem PySem.Spec PyProof.Rows L2
theorem pBs_map {α : Type} (f : α → Bool) : ∀ l : List α, pBs (l.map fun x => PyData.bool (f x)) = some (l.map f)
  | [] => rfl
  | x :: r => by
    show (pBs (r.map fun x => PyData.bool (f x))).map (f x :: ·) = _
    rw [pBs_map f r]
    rfl
theorem any_id {α : Type} (f : α → Bool) (l : List α) : (l.map f).any id = l.any f := by
  induction l with
  | nil => rfl
  | cons x r ih => simp [ih]
theorem any_c {α : Type} {T : TabP} {e : E} {ρ : EnvP} {gr : List α} {a : α → Bool} (h : evP T e ρ = .ok (.d, .list (gr.map fun p => .bool (a p)))) : evP T (.bi .any e) ρ = .ok (.d, .bool (gr.any a)) := by
  rw [P_bi, h]
  show ofP ((biD .any (.list (gr.map fun p => PyData.bool (a p)))).map fun z => (Fg.d, z)) = _
  show ofP (((pBs (gr.map fun p => PyData.bool (a p))).map fun bs => PyData.bool (bs.any id)).map fun z => (Fg.d, z)) = _
  rw [pBs_map]
  show RQ.ok (Fg.d, PyData.bool ((gr.map a).any id)) = _
  rw [any_id]
theorem fil_nil {gr : List Nat} {a : Nat → Bool} : PyData.eqv (.list ((gr.filter a).map fun (p : Nat) => PyData.int (p : Int))) (.list []) = !gr.any a := by
  induction gr with
  | nil => rfl
  | cons p r ih =>
    cases h : a p with
    | true => rw [List.filter_cons_of_pos h]; simp [h, PyData.eqv, PyData.eqvAll]
    | false => rw [List.filter_cons_of_neg (by simp [h])]; simp only [List.any_cons, h, Bool.false_or]; exact ih
/-- the data of a group: places into three tuples -/
structure Grp (T : TabP) (j : Nat) (rs os ds : List PyData) (gr : List Nat) (a n : Nat → Bool) : Prop where
  short : gr.length ≤ lim
  item : ∀ p ∈ gr, ∃ (r : PyData) (o d : Int), L2.atI rs (p : Int) = some r ∧ L2.atI os (p : Int) = some (.int o) ∧ L2.atI ds (p : Int) = some (.int d) ∧ T j [r, .int o, .int d] = .ok (.bool (a p)) ∧ n p = !(d == o)
/-- os: the other, ds: the dealing that may be better -/
theorem is_better_ok {T : TabP} {rs os ds : List PyData} {gr : List Nat} {a n : Nat → Bool} (h : Grp T 12 rs os ds gr a n) (gs : PyData) (hg : srcP gs = some (gr.map iN)) :
    runP T d_is_better.f [.tuple rs, .tuple ds, .tuple os, gs] = .ok (.bool (!(gr.any a) && gr.any n)) := by
  have e1 : evP T (.comp (.call 12 (.cons (.ix (.var 0) (.var 4)) (.cons (.ix (.var 2) (.var 4)) (.cons (.ix (.var 1) (.var 4)) .nil)))) (.name 4) (.ex (.var 3)) .no [4]) [some (.arg, .tuple rs), some (.arg, .tuple ds), some (.arg, .tuple os), some (.arg, gs), none] = .ok (.d, .list (gr.map fun p => .bool (a p))) := by
    have := P_compN (T := T) (e := (.call 12 (.cons (.ix (.var 0) (.var 4)) (.cons (.ix (.var 2) (.var 4)) (.cons (.ix (.var 1) (.var 4)) .nil))))) (t := .name 4) (i := .ex (.var 3)) (c := .no) (own := [4]) (ρ := [some (.arg, .tuple rs), some (.arg, .tuple ds), some (.arg, .tuple os), some (.arg, gs), none])
      (l := gr) (k := iN) (p := fun _ => true) (g := fun x => .bool (a x)) (by simp [I_ex, P_var, getP, RQ.bind, hg, ofP]) (fun p hp => by
        obtain ⟨r, o, d, h1, h2, h3, h4, h5⟩ := h.item p hp
        simp [cP, tgP, wipeP, ofP, RQ.bind, RQ.nox, C_no, P_call, A_cons, A_nil, P_ix, P_var, getP, dP, isL, iN, ixP, h1, h2, h3, h4]) h.short
    rw [this, filter_all]
  have e2 : evP T (.comp (.cmp .ne (.ix (.var 1) (.var 4)) (.ix (.var 2) (.var 4))) (.name 4) (.ex (.var 3)) .no [4]) [some (.arg, .tuple rs), some (.arg, .tuple ds), some (.arg, .tuple os), some (.arg, gs), none] = .ok (.d, .list (gr.map fun p => .bool (n p))) := by
    have := P_compN (T := T) (e := (.cmp .ne (.ix (.var 1) (.var 4)) (.ix (.var 2) (.var 4)))) (t := .name 4) (i := .ex (.var 3)) (c := .no) (own := [4]) (ρ := [some (.arg, .tuple rs), some (.arg, .tuple ds), some (.arg, .tuple os), some (.arg, gs), none])
      (l := gr) (k := iN) (p := fun _ => true) (g := fun x => .bool (n x)) (by simp [I_ex, P_var, getP, RQ.bind, hg, ofP]) (fun p hp => by
        obtain ⟨r, o, d, h1, h2, h3, h4, h5⟩ := h.item p hp
        simp [cP, tgP, wipeP, ofP, RQ.bind, RQ.nox, C_no, P_cmp, P_ix, P_var, getP, dP, isL, iN, ixP, h1, h2, h3, h4, h5, cmpD, PyData.depth, PyData.eqv]) h.short
    rw [this, filter_all]
  have e3 := any_c e1
  have e4 := any_c e2
  generalize gr.any a = A at e3 ⊢
  generalize gr.any n = B at e4 ⊢
  cases A <;> simp [runP, d_is_better, b_is_better, startP, B_cons, B_nil, X_ite, X_ret, e3, e4, RQ.bind, ofP, boolP, P_cst, rtP]
theorem gains_ok {T : TabP} {rs os ds : List PyData} {gr : List Nat} {a n : Nat → Bool} (h : Grp T 19 rs os ds gr a n) (gs : PyData) (hg : srcP gs = some (gr.map iN)) :
    runP T d_law_gains.f [.tuple rs, .tuple ds, .tuple os, gs] = .ok (.bool (!(gr.any a) && gr.any n)) := by
  have e1 : evP T (.comp (.var 5) (.name 5) (.ex (.var 3)) (.so (.call 19 (.cons (.ix (.var 0) (.var 5)) (.cons (.ix (.var 2) (.var 5)) (.cons (.ix (.var 1) (.var 5)) .nil))))) [5]) [some (.arg, .tuple rs), some (.arg, .tuple ds), some (.arg, .tuple os), some (.arg, gs), none, none] = .ok (.d, .list ((gr.filter a).map iN)) :=
    P_compN (l := gr) (k := iN) (p := a) (g := iN) (by simp [I_ex, P_var, getP, RQ.bind, hg, ofP]) (fun p hp => by
        obtain ⟨r, o, d, h1, h2, h3, h4, h5⟩ := h.item p hp
        cases hap : a p <;> simp [cP, tgP, wipeP, ofP, RQ.bind, RQ.nox, C_so, P_call, A_cons, A_nil, P_ix, P_var, getP, dP, isL, iN, ixP, h1, h2, h3, h4, hap, boolP]) h.short
  have e2 : ∀ z, evP T (.comp (.var 5) (.name 5) (.ex (.var 3)) (.so (.cmp .ne (.ix (.var 1) (.var 5)) (.ix (.var 2) (.var 5)))) [5]) [some (.arg, .tuple rs), some (.arg, .tuple ds), some (.arg, .tuple os), some (.arg, gs), some z, none] = .ok (.d, .list ((gr.filter n).map iN)) := fun z =>
    P_compN (l := gr) (k := iN) (p := n) (g := iN) (by simp [I_ex, P_var, getP, RQ.bind, hg, ofP]) (fun p hp => by
        obtain ⟨r, o, d, h1, h2, h3, h4, h5⟩ := h.item p hp
        cases hnp : n p <;> rw [hnp] at h5 <;> simp [cP, tgP, wipeP, ofP, RQ.bind, RQ.nox, C_so, P_cmp, P_ix, P_var, getP, dP, isL, iN, ixP, h1, h2, h3, h4, cmpD, PyData.depth, PyData.eqv, boolP, ← h5]) h.short
  have f1 := fil_nil (gr := gr) (a := a)
  have f2 := fil_nil (gr := gr) (a := n)
  have c1 : ∀ L z, evP T (.cmp .eq (.var 4) (.lst .nil)) [some (.arg, .tuple rs), some (.arg, .tuple ds), some (.arg, .tuple os), some (.arg, gs), some (.d, .list L), z] = .ok (.d, .bool (PyData.eqv (.list L) (.list []))) := fun L z => by
    simp [P_cmp, P_var, getP, RQ.bind, P_lst, A_nil, dsP, ofP, ssz, cmp_nil]
  have c2 : ∀ z, evP T (.cmp .ne (.comp (.var 5) (.name 5) (.ex (.var 3)) (.so (.cmp .ne (.ix (.var 1) (.var 5)) (.ix (.var 2) (.var 5)))) [5]) (.lst .nil)) [some (.arg, .tuple rs), some (.arg, .tuple ds), some (.arg, .tuple os), some (.arg, gs), some z, none] = .ok (.d, .bool (gr.any n)) := fun z => by
    rw [P_cmp, e2 z]
    simp only [RQ.bind, P_lst, A_nil, dsP, ofP, ssz, cmp_nilN]
    have f2 : (!PyData.eqv (.list ((gr.filter n).map iN)) (.list [])) = gr.any n := by rw [show PyData.eqv (.list ((gr.filter n).map iN)) (.list []) = !gr.any n from f2]; simp
    simp [cmp_nilN, f2]
  have f1 : PyData.eqv (.list ((gr.filter a).map iN)) (.list []) = !gr.any a := f1
  generalize gr.any a = A at f1 ⊢
  generalize gr.any n = B at c2 ⊢
  have c1 := c1 ((gr.filter a).map iN) none
  rw [f1] at c1
  cases A <;> simp [runP, d_law_gains, b_law_gains, startP, B_cons, B_nil, X_asg, X_ret, P_and, stP, e1, c1, c2, RQ.bind, ofP, boolP, P_cst, rtP]
end K00
end PV
namespace PV
namespace K00
open PySem PySem.Spec PyProof.Rows L2
def TP : TabP := tabP ds
def pre (j : Nat) : TabP := tabP (ds.take j)
def iT (l : List Nat) : PyData := .tuple (l.map iN)
def O2 : List (List Nat) := [[0, 1], [1, 0]]
def O3 : List (List Nat) := [[0, 1, 2], [0, 2, 1], [1, 0, 2], [1, 2, 0], [2, 0, 1], [2, 1, 0]]
def R2 : List PyData := O2.flatMap fun a => O2.map fun b => .tuple [iT a, iT b]
def R3 : List PyData := O3.flatMap fun a => O3.flatMap fun b => O3.map fun c => .tuple [iT a, iT b, iT c]
def G2 : List (List Nat) := [[0], [1], [0, 1]]
def G3 : List (List Nat) := [[0], [1], [2], [0, 1], [0, 2], [1, 2], [0, 1, 2]]
/-- the members of g trade among themselves -/
def kap1 (o gl : List Nat) : Bool := gl.all fun p => gl.contains (o.getD p 9)
def kap2 (n : Nat) (o gl : List Nat) : Bool := (List.range n).all fun p => gl.contains p || o.getD p 9 == p
def own (n : Nat) (O : List (List Nat)) (gl : List Nat) : List (List Nat) := O.filter fun o => kap1 o gl && kap2 n o gl
def bOf (r : RQ PyData) : Bool := match r with
  | .ok (.bool b) => b
  | _ => false
def isB (r : RQ PyData) : Bool := match r with
  | .ok (.bool _) => true
  | _ => false
def isNn (r : RQ PyData) : Bool := match r with
  | .ok .none => true
  | _ => false
def isTt (r : RQ PyData) : Bool := match r with
  | .ok (.bool b) => b
  | _ => false
theorem isB_ok {r : RQ PyData} (h : isB r = true) : r = .ok (.bool (bOf r)) := by
  cases r with
  | ok d => cases d <;> first | rfl | cases h
  | _ => cases h
theorem isNn_ok {r : RQ PyData} (h : isNn r = true) : r = .ok .none := by
  cases r with
  | ok d => cases d <;> first | rfl | cases h
  | _ => cases h
theorem isTt_ok {r : RQ PyData} (h : isTt r = true) : r = .ok (.bool true) := by
  cases r with
  | ok d => cases d <;> first | (cases h; done) | (rename_i b; cases b <;> first | rfl | cases h)
  | _ => cases h
/-- all that is known of a number of people -/
structure Pr (n : Nat) (O G : List (List Nat)) (R : List PyData) : Prop where
  small : n = 2 ∨ n = 3
  o : TP 14 [iN n] = .ok (.list (O.map iT))
  l : TP 18 [iN n] = .ok (.list (O.map iT))
  d : TP 26 [iN n] = .ok (.tuple (O.map iT))
  r : TP 28 [iN n] = .ok (.tuple R)
  m : TP 22 [iN n] = .ok (.list R)
  g : TP 11 [iN n] = .ok (.list (G.map iT))
  ol : ∀ a ∈ O, a.length = n ∧ ∀ x ∈ a, x < n
  gl : ∀ a ∈ G, ∀ x ∈ a, x < n
  rl : ∀ x ∈ R, ∃ rs : List (List Nat), x = .tuple (rs.map iT) ∧ rs.length = n ∧ ∀ a ∈ rs, a ∈ O
  ah : ∀ a ∈ O, ∀ x, x < n → ∀ y, y < n → isB (TP 12 [iT a, iN x, iN y]) = true
  nr : ∀ x ∈ R, isNn (TP 9 [x]) = true
  io : ∀ a ∈ O, isTt (TP 8 [iT a, iN n]) = true ∧ isB (TP 8 [iT a, iN 2]) = true
  own : ∀ a ∈ G, TP 15 [iN n, iT a] = .ok (.list ((own n O a).map iT))
theorem pr2 : Pr 2 O2 G2 R2 where
  small := .inl rfl
  o := by kernel_rfl
  l := by kernel_rfl
  d := by kernel_rfl
  r := by kernel_rfl
  m := by kernel_rfl
  g := by kernel_rfl
  ol := by decide
  gl := by decide
  rl := by
    intro x hx
    obtain ⟨a, ha, hx⟩ := List.mem_flatMap.mp hx
    obtain ⟨b, hb, rfl⟩ := List.mem_map.mp hx
    exact ⟨[a, b], rfl, rfl, by simp [ha, hb]⟩
  ah := by decide +kernel
  nr := by
    have : R2.all (fun x => isNn (TP 9 [x])) = true := by decide +kernel
    exact List.all_eq_true.mp this
  io := by decide +kernel
  own := by
    intro a ha
    simp only [G2, List.mem_cons, List.not_mem_nil, or_false] at ha
    rcases ha with rfl | rfl | rfl <;> kernel_rfl
theorem pr3 : Pr 3 O3 G3 R3 where
  small := .inr rfl
  o := by kernel_rfl
  l := by kernel_rfl
  d := by kernel_rfl
  r := by kernel_rfl
  m := by kernel_rfl
  g := by kernel_rfl
  ol := by decide
  gl := by decide
  rl := by
    intro x hx
    obtain ⟨a, ha, hx⟩ := List.mem_flatMap.mp hx
    obtain ⟨b, hb, hx⟩ := List.mem_flatMap.mp hx
    obtain ⟨c, hc, rfl⟩ := List.mem_map.mp hx
    exact ⟨[a, b, c], rfl, rfl, by simp [ha, hb, hc]⟩
  ah := by decide +kernel
  nr := by
    have : R3.all (fun x => isNn (TP 9 [x])) = true := by decide +kernel
    exact List.all_eq_true.mp this
  io := by decide +kernel
  own := by
    intro a ha
    simp only [G3, List.mem_cons, List.not_mem_nil, or_false] at ha
    rcases ha with rfl | rfl | rfl | rfl | rfl | rfl | rfl <;> kernel_rfl
end K00
end PV
namespace PV
namespace K00
open PySem PySem.Spec PyProof.Rows L2
def aB (r x y : PyData) : Bool := bOf (TP 12 [r, x, y])
def aT (rs : List PyData) (lo ld : List Nat) (p : Nat) : Bool := aB (rs.getD p .none) (iN (lo.getD p 0)) (iN (ld.getD p 0))
def nT (lo ld : List Nat) (p : Nat) : Bool := !(((ld.getD p 0 : Nat) : Int) == ((lo.getD p 0 : Nat) : Int))
/-- ld is better than lo for gr -/
def bt (rs : List PyData) (lo ld gr : List Nat) : Bool := !(gr.any (aT rs lo ld)) && gr.any (nT lo ld)
theorem p_13_12 (xs) : pre 13 12 xs = TP 12 xs := congrFun (tabP_take (by decide)) xs
theorem p_20_19 (xs) : pre 20 19 xs = TP 19 xs := congrFun (tabP_take (by decide)) xs
theorem T_12 (xs) : TP 12 xs = runP (pre 12) d_is_ahead.f xs := congrFun (tabP_at rfl) xs
theorem T_13 (xs) : TP 13 xs = runP (pre 13) d_is_better.f xs := congrFun (tabP_at rfl) xs
theorem T_19 (xs) : TP 19 xs = runP (pre 19) d_law_before.f xs := congrFun (tabP_at rfl) xs
theorem T_20 (xs) : TP 20 xs = runP (pre 20) d_law_gains.f xs := congrFun (tabP_at rfl) xs
theorem before_eq (r x y : PyData) : pre 20 19 [r, x, y] = TP 12 [r, x, y] := by
  rw [p_20_19, T_19, T_12]
  simp [runP, d_law_before, d_is_ahead, b_law_before, b_is_ahead, startP, B_cons, B_nil, X_ret, P_cmp, P_mt, P_var, getP, RQ.bind]
theorem getD_get {α : Type} {l : List α} {p : Nat} {d : α} (h : p < l.length) : L2.atI l (p : Int) = some (l.getD p d) := by
  rw [atI_iN h, List.getD_eq_getElem?_getD, List.getElem?_eq_getElem h]
  rfl
theorem getD_map {l : List Nat} {p : Nat} (h : p < l.length) : L2.atI (l.map iN) (p : Int) = some (iN (l.getD p 0)) := by
  rw [atI_iN (by simpa using h), List.getElem_map, List.getD_eq_getElem?_getD, List.getElem?_eq_getElem h]
  rfl
theorem getD_mem {α : Type} {l : List α} {p : Nat} {d : α} (h : p < l.length) : l.getD p d ∈ l := by
  rw [List.getD_eq_getElem?_getD, List.getElem?_eq_getElem h]
  exact List.getElem_mem h
section
variable {n : Nat} {O G : List (List Nat)} {R : List PyData} (P : Pr n O G R) {rl : List (List Nat)} {lo ld gr : List Nat}
theorem grp {T : TabP} {j : Nat} (hT : ∀ r x y, T j [r, x, y] = TP 12 [r, x, y]) (P : Pr n O G R) (h1 : rl.length = n) (h2 : ∀ a ∈ rl, a ∈ O) (h3 : lo ∈ O) (h4 : ld ∈ O) (h5 : ∀ x ∈ gr, x < n) (h6 : gr.length ≤ lim) : Grp T j (rl.map iT) (lo.map iN) (ld.map iN) gr (aT (rl.map iT) lo ld) (nT lo ld) where
  short := h6
  item := fun p hp => by
    have hpn := h5 p hp
    have l1 := (P.ol lo h3).1
    have l2 := (P.ol ld h4).1
    have hr : p < (rl.map iT).length := by simp; omega
    refine ⟨(rl.map iT).getD p .none, ((lo.getD p 0 : Nat) : Int), ((ld.getD p 0 : Nat) : Int), getD_get hr, getD_map (by omega), getD_map (by omega), ?_, rfl⟩
    obtain ⟨a, ha, e⟩ := List.mem_map.mp (getD_mem (d := PyData.none) hr)
    rw [hT]
    show TP 12 [(rl.map iT).getD p .none, iN (lo.getD p 0), iN (ld.getD p 0)] = .ok (.bool (bOf (TP 12 [(rl.map iT).getD p .none, iN (lo.getD p 0), iN (ld.getD p 0)])))
    rw [← e]
    exact isB_ok (P.ah a (h2 a ha) _ ((P.ol lo h3).2 _ (getD_mem (by omega))) _ ((P.ol ld h4).2 _ (getD_mem (by omega))))
theorem t13 (P : Pr n O G R) (h1 : rl.length = n) (h2 : ∀ a ∈ rl, a ∈ O) (h3 : lo ∈ O) (h4 : ld ∈ O) (h5 : ∀ x ∈ gr, x < n) (h6 : gr.length ≤ lim) {gs : PyData} (hg : srcP gs = some (gr.map iN)) : TP 13 [.tuple (rl.map iT), iT ld, iT lo, gs] = .ok (.bool (bt (rl.map iT) lo ld gr)) :=
  (T_13 _).trans (is_better_ok (T := pre 13) (grp (fun _ _ _ => p_13_12 _) P h1 h2 h3 h4 h5 h6) gs hg)
theorem t20 (P : Pr n O G R) (h1 : rl.length = n) (h2 : ∀ a ∈ rl, a ∈ O) (h3 : lo ∈ O) (h4 : ld ∈ O) (h5 : ∀ x ∈ gr, x < n) (h6 : gr.length ≤ lim) {gs : PyData} (hg : srcP gs = some (gr.map iN)) : TP 20 [.tuple (rl.map iT), iT ld, iT lo, gs] = .ok (.bool (bt (rl.map iT) lo ld gr)) :=
  (T_20 _).trans (gains_ok (T := pre 20) (grp (fun r x y => before_eq r x y) P h1 h2 h3 h4 h5 h6) gs hg)
/-! better -/
theorem p_10_9 (xs) : pre 10 9 xs = TP 9 xs := congrFun (tabP_take (by decide)) xs
theorem p_10_8 (xs) : pre 10 8 xs = TP 8 xs := congrFun (tabP_take (by decide)) xs
theorem p_24_10 (xs) : pre 24 10 xs = TP 10 xs := congrFun (tabP_take (by decide)) xs
theorem p_24_23 (xs) : pre 24 23 xs = TP 23 xs := congrFun (tabP_take (by decide)) xs
theorem p_23_14 (xs) : pre 23 14 xs = TP 14 xs := congrFun (tabP_take (by decide)) xs
theorem p_23_13 (xs) : pre 23 13 xs = TP 13 xs := congrFun (tabP_take (by decide)) xs
theorem p_29_18 (xs) : pre 29 18 xs = TP 18 xs := congrFun (tabP_take (by decide)) xs
theorem p_29_20 (xs) : pre 29 20 xs = TP 20 xs := congrFun (tabP_take (by decide)) xs
theorem p_16_11 (xs) : pre 16 11 xs = TP 11 xs := congrFun (tabP_take (by decide)) xs
theorem p_16_15 (xs) : pre 16 15 xs = TP 15 xs := congrFun (tabP_take (by decide)) xs
theorem p_16_13 (xs) : pre 16 13 xs = TP 13 xs := congrFun (tabP_take (by decide)) xs
theorem p_17_10 (xs) : pre 17 10 xs = TP 10 xs := congrFun (tabP_take (by decide)) xs
theorem p_17_16 (xs) : pre 17 16 xs = TP 16 xs := congrFun (tabP_take (by decide)) xs
theorem p_21_18 (xs) : pre 21 18 xs = TP 18 xs := congrFun (tabP_take (by decide)) xs
theorem p_21_20 (xs) : pre 21 20 xs = TP 20 xs := congrFun (tabP_take (by decide)) xs
theorem p_4_3 (xs) : pre 4 3 xs = TP 3 xs := congrFun (tabP_take (by decide)) xs
theorem p_3_2 (xs) : pre 3 2 xs = TP 2 xs := congrFun (tabP_take (by decide)) xs
theorem p_2_1 (xs) : pre 2 1 xs = TP 1 xs := congrFun (tabP_take (by decide)) xs
theorem T_23 (xs) : TP 23 xs = runP (pre 23) d_better_of.f xs := congrFun (tabP_at rfl) xs
theorem T_29 (xs) : TP 29 xs = runP (pre 29) d_law_better.f xs := congrFun (tabP_at rfl) xs
theorem T_24 (xs) : TP 24 xs = runP (pre 24) d_better.f xs := congrFun (tabP_at rfl) xs
theorem T_10 (xs) : TP 10 xs = runP (pre 10) d_need_dealing.f xs := congrFun (tabP_at rfl) xs
theorem T_16 (xs) : TP 16 xs = runP (pre 16) d_blocker.f xs := congrFun (tabP_at rfl) xs
theorem T_17 (xs) : TP 17 xs = runP (pre 17) d_blocking_group.f xs := congrFun (tabP_at rfl) xs
theorem T_21 (xs) : TP 21 xs = runP (pre 21) d_law_blocker.f xs := congrFun (tabP_at rfl) xs
theorem T_4 (xs) : TP 4 xs = runP (pre 4) (f_alike 3) xs := congrFun (tabP_at (ds := ds) (i := 4) (d := d_law_alike_5) rfl) xs
theorem T_3 (xs) : TP 3 xs = runP (pre 3) (f_alike 2) xs := congrFun (tabP_at (ds := ds) (i := 3) (d := d_law_alike_4) rfl) xs
theorem T_2 (xs) : TP 2 xs = runP (pre 2) (f_alike 1) xs := congrFun (tabP_at (ds := ds) (i := 2) (d := d_law_alike_3) rfl) xs
theorem T_1 (xs) : TP 1 xs = runP (pre 1) (f_alike 0) xs := congrFun (tabP_at (ds := ds) (i := 1) (d := d_law_alike_2) rfl) xs
theorem rng_n (P : Pr n O G R) : rngD (n : Int) = some ((List.range n).map iN) := by
  unfold rngD
  have := P.small
  rw [if_pos ⟨by omega, by omega⟩]
  simp [iN]
theorem len_rl (h1 : rl.length = n) : biD .len (.tuple (rl.map iT)) = some (iN n) := by
  show some (PyData.int ((rl.map iT).length : Int)) = _
  rw [List.length_map, h1]
  rfl
theorem range_lt (n : Nat) : ∀ x ∈ List.range n, x < n := fun x h => by simpa using h
theorem n_lim (P : Pr n O G R) : n ≤ lim := by have := P.small; have : lim = 100000 := rfl; omega
theorem t23 (P : Pr n O G R) (hO : O.length ≤ lim) (h1 : rl.length = n) (h2 : ∀ a ∈ rl, a ∈ O) (h3 : lo ∈ O) : TP 23 [.tuple (rl.map iT), iT lo] = .ok (.list ((O.filter fun ld => bt (rl.map iT) lo ld (List.range n)).map iT)) := by
  have e1 : evP (pre 23) (.comp (.var 3) (.name 3) (.ex (.call 14 (.cons (.bi .len (.var 0)) .nil))) (.so (.call 13 (.cons (.var 0) (.cons (.var 3) (.cons (.var 1) (.cons (.var 2) .nil)))))) [3]) [some (.arg, .tuple (rl.map iT)), some (.arg, iT lo), some (.d, .list ((List.range n).map iN)), none] = .ok (.d, .list ((O.filter fun ld => bt (rl.map iT) lo ld (List.range n)).map iT)) :=
    P_compN (l := O) (k := iT) (p := fun ld => bt (rl.map iT) lo ld (List.range n)) (g := iT) (by
      have : pre 23 14 [iN n] = .ok (.list (O.map iT)) := by rw [p_23_14]; exact P.o
      simp [I_ex, P_call, A_cons, A_nil, P_bi, P_var, getP, RQ.bind, len_rl h1, ofP, this, srcP, hO]) (fun ld hld => by
      have : pre 23 13 [.tuple (rl.map iT), iT ld, iT lo, .list ((List.range n).map iN)] = .ok (.bool (bt (rl.map iT) lo ld (List.range n))) := by rw [p_23_13]; exact t13 P h1 h2 h3 hld (range_lt n) (by simpa using n_lim P) (by simp [srcP, n_lim P])
      cases hb : bt (rl.map iT) lo ld (List.range n) <;> rw [hb] at this <;> simp [cP, tgP, wipeP, ofP, RQ.bind, RQ.nox, C_so, P_call, A_cons, A_nil, P_var, getP, this, boolP, dP, hb]) hO
  rw [T_23]
  have e2 : evP (pre 23) (.lrng (.bi .len (.var 0))) [some (.arg, .tuple (rl.map iT)), some (.arg, iT lo), none, none] = .ok (.d, .list ((List.range n).map iN)) := by
    simp [P_lrng, P_bi, P_var, getP, RQ.bind, len_rl h1, ofP, intP, iN, rng_n P]
  simp [runP, d_better_of, b_better_of, startP, B_cons, B_nil, X_asg, X_ret, e1, e2, RQ.bind, stP, rtP]
theorem t29 (P : Pr n O G R) (hO : O.length ≤ lim) (h1 : rl.length = n) (h2 : ∀ a ∈ rl, a ∈ O) (h3 : lo ∈ O) : TP 29 [.tuple (rl.map iT), iT lo] = .ok (.list ((O.filter fun ld => bt (rl.map iT) lo ld (List.range n)).map iT)) := by
  have e1 : evP (pre 29) (.comp (.var 2) (.name 2) (.ex (.call 18 (.cons (.bi .len (.var 0)) .nil))) (.so (.call 20 (.cons (.var 0) (.cons (.var 2) (.cons (.var 1) (.cons (.lrng (.bi .len (.var 0))) .nil)))))) [2]) [some (.arg, .tuple (rl.map iT)), some (.arg, iT lo), none] = .ok (.d, .list ((O.filter fun ld => bt (rl.map iT) lo ld (List.range n)).map iT)) :=
    P_compN (l := O) (k := iT) (p := fun ld => bt (rl.map iT) lo ld (List.range n)) (g := iT) (by
      have : pre 29 18 [iN n] = .ok (.list (O.map iT)) := by rw [p_29_18]; exact P.l
      simp [I_ex, P_call, A_cons, A_nil, P_bi, P_var, getP, RQ.bind, len_rl h1, ofP, this, srcP, hO]) (fun ld hld => by
      have : pre 29 20 [.tuple (rl.map iT), iT ld, iT lo, .list ((List.range n).map iN)] = .ok (.bool (bt (rl.map iT) lo ld (List.range n))) := by rw [p_29_20]; exact t20 P h1 h2 h3 hld (range_lt n) (by simpa using n_lim P) (by simp [srcP, n_lim P])
      cases hb : bt (rl.map iT) lo ld (List.range n) <;> rw [hb] at this <;> simp [cP, tgP, wipeP, ofP, RQ.bind, RQ.nox, C_so, P_call, A_cons, A_nil, P_var, P_lrng, P_bi, len_rl h1, intP, iN, rng_n P, getP, boolP, dP, hb, this]) hO
  rw [T_29]
  simp [runP, d_law_better, b_law_better, startP, B_cons, B_nil, X_ret, e1, RQ.bind, rtP]
theorem t10 (P : Pr n O G R) {x : PyData} (hx : x ∈ R) (h3 : lo ∈ O) : TP 10 [x, iT lo] = .ok .none := by
  obtain ⟨rl, rfl, h1, h2⟩ := P.rl x hx
  have f1 : pre 10 9 [.tuple (rl.map iT)] = .ok .none := by rw [p_10_9]; exact isNn_ok (P.nr _ hx)
  have f2 : TP 8 [iT lo, iN n] = .ok (.bool true) := isTt_ok (P.io lo h3).1
  have f3 : TP 8 [iT lo, iN 2] = .ok (.bool (bOf (TP 8 [iT lo, iN 2]))) := isB_ok (P.io lo h3).2
  have f4 : biD .len (iT lo) = some (iN n) := by
    show some (PyData.int ((lo.map iN).length : Int)) = _
    rw [List.length_map, (P.ol lo h3).1]
    rfl
  have f5 := len_rl h1
  rw [T_10]
  generalize bOf (TP 8 [iT lo, iN 2]) = B at f3
  rcases P.small with rfl | rfl
  · have g2 : pre 10 8 [iT lo, .int 2] = .ok (.bool true) := by rw [p_10_8]; exact f2
    have g4 : biD .len (iT lo) = some (.int 2) := f4
    have g5 : biD .len (.tuple (rl.map iT)) = some (.int 2) := f5
    simp [runP, d_need_dealing, b_need_dealing, startP, B_cons, B_nil, X_ex, X_ite, P_and, P_not, P_cmp, P_bi, P_call, P_cst, A_cons, A_nil, P_var, getP, RQ.bind, ofP, boolP, f1, g2, g4, g5, cmpD, PyData.depth, PyData.eqv]
  · have g2 : pre 10 8 [iT lo, .int 3] = .ok (.bool true) := by rw [p_10_8]; exact f2
    have g3 : pre 10 8 [iT lo, .int 2] = .ok (.bool B) := by rw [p_10_8]; exact f3
    have g4 : biD .len (iT lo) = some (.int 3) := f4
    have g5 : biD .len (.tuple (rl.map iT)) = some (.int 3) := f5
    cases B <;> simp [runP, d_need_dealing, b_need_dealing, startP, B_cons, B_nil, X_ex, X_ite, P_and, P_not, P_cmp, P_bi, P_call, P_cst, A_cons, A_nil, P_var, getP, RQ.bind, ofP, boolP, f1, g2, g3, g4, g5, cmpD, PyData.depth, PyData.eqv]
theorem t24 (P : Pr n O G R) (hO : O.length ≤ lim) (hx : PyData.tuple (rl.map iT) ∈ R) (h1 : rl.length = n) (h2 : ∀ a ∈ rl, a ∈ O) (h3 : lo ∈ O) : TP 24 [.tuple (rl.map iT), iT lo] = .ok (.tuple ((O.filter fun ld => bt (rl.map iT) lo ld (List.range n)).map iT)) := by
  have f1 : pre 24 10 [.tuple (rl.map iT), iT lo] = .ok .none := by rw [p_24_10]; exact t10 P hx h3
  have f2 := t23 P hO h1 h2 h3
  rw [← p_24_23] at f2
  rw [T_24]
  simp [runP, d_better, b_better, startP, B_cons, B_nil, X_ex, X_ret, P_bi, P_call, A_cons, A_nil, P_var, getP, RQ.bind, ofP, f1, f2, biD, rtP]
/-! alike -/
theorem al1 (i : Int) : TP 1 [.int i, .int i] = .ok (.bool true) := by rw [T_1]; exact alike_int _ _ _
theorem al2 (i : Int) : TP 2 [.int i, .int i] = .ok (.bool true) := by rw [T_2]; exact alike_int _ _ _
theorem al2T (a : List Nat) (h : a.length ≤ lim) : TP 2 [iT a, iT a] = .ok (.bool true) := by
  rw [T_2]
  exact alike_tup (fun x hx => by obtain ⟨y, _, rfl⟩ := List.mem_map.mp hx; rw [p_2_1]; exact al1 _) (by simpa using h)
theorem al3T (a : List Nat) (h : a.length ≤ lim) : TP 3 [iT a, iT a] = .ok (.bool true) := by
  rw [T_3]
  exact alike_tup (fun x hx => by obtain ⟨y, _, rfl⟩ := List.mem_map.mp hx; rw [p_3_2]; exact al2 _) (by simpa using h)
theorem al3R (rl : List (List Nat)) (h : rl.length ≤ lim) (h2 : ∀ a ∈ rl, a.length ≤ lim) : TP 3 [.tuple (rl.map iT), .tuple (rl.map iT)] = .ok (.bool true) := by
  rw [T_3]
  exact alike_tup (fun x hx => by obtain ⟨y, hy, rfl⟩ := List.mem_map.mp hx; rw [p_3_2]; exact al2T _ (h2 y hy)) (by simpa using h)
theorem al4T (a : List Nat) (h : a.length ≤ lim) : TP 4 [iT a, iT a] = .ok (.bool true) := by
  rw [T_4]
  have al3 : ∀ i : Int, pre 4 3 [.int i, .int i] = .ok (.bool true) := fun i => by
    rw [p_4_3, T_3]; exact alike_int _ _ _
  exact alike_tup (fun x hx => by obtain ⟨y, _, rfl⟩ := List.mem_map.mp hx; exact al3 _) (by simpa using h)
theorem al4N : TP 4 [.none, .none] = .ok (.bool true) := by rw [T_4]; exact alike_none _ _
theorem al4L (l : List (List Nat)) (h : l.length ≤ lim) (h2 : ∀ a ∈ l, a.length ≤ lim) : TP 4 [.tuple (l.map iT), .tuple (l.map iT)] = .ok (.bool true) := by
  rw [T_4]
  exact alike_tup (fun x hx => by obtain ⟨y, hy, rfl⟩ := List.mem_map.mp hx; rw [p_4_3]; exact al3T _ (h2 y hy)) (by simpa using h)
theorem al4R (P : Pr n O G R) (h : R.length ≤ lim) : TP 4 [.tuple R, .tuple R] = .ok (.bool true) := by
  rw [T_4]
  refine alike_tup (fun x hx => ?_) h
  obtain ⟨rl, rfl, h1, h2⟩ := P.rl x hx
  rw [p_4_3]
  exact al3R rl (by rw [h1]; exact n_lim P) fun a ha => by rw [(P.ol a (h2 a ha)).1]; exact n_lim P
end
end K00
end PV
namespace PV
namespace K00
open PySem PySem.Spec PyProof.Rows L2
theorem own_sub {n : Nat} {O : List (List Nat)} {gl : List Nat} : ∀ o ∈ own n O gl, o ∈ O := fun o h => (List.mem_filter.mp h).1
theorem own_len {n : Nat} {O : List (List Nat)} {gl : List Nat} : (own n O gl).length ≤ O.length := List.length_filter_le _ _
section
variable {n : Nat} {O G : List (List Nat)} {R : List PyData} {rl : List (List Nat)} {lo ld gr : List Nat}
def cb (n : Nat) (O : List (List Nat)) (rs : List PyData) (lo : List Nat) (gl : List Nat) : Bool := (own n O gl).any fun o => bt rs lo o gl
def pick (G : List (List Nat)) (c : List Nat → Bool) : PyData := match G.find? c with
  | some g => iT g
  | none => .none
theorem t16 (P : Pr n O G R) (hO : O.length ≤ lim) (hG : G.length ≤ lim) (hGl : ∀ g ∈ G, g.length ≤ lim) (h1 : rl.length = n) (h2 : ∀ a ∈ rl, a ∈ O) (h3 : lo ∈ O) : TP 16 [.tuple (rl.map iT), iT lo] = .ok (pick G (cb n O (rl.map iT) lo)) := by
  have hg : pre 16 11 [iN n] = .ok (.list (G.map iT)) := by rw [p_16_11]; exact P.g
  have step := forP_find (α := List Nat) (k := iT) (c := cb n O (rl.map iT) lo) (v := fun g => (Fg.d, iT g)) (Inv := fun ρ => ∃ z2 z3, ρ = [some (.arg, .tuple (rl.map iT)), some (.arg, iT lo), z2, z3])
    (f := fun ρ x => (ofP (tgP (.name 2) x ρ)).bind fun ρ' => exsP (pre 16) (.cons (.ite (.bi .any (.comp (.call 13 (.cons (.var 0) (.cons (.var 3) (.cons (.var 1) (.cons (.var 2) .nil))))) (.name 3) (.ex (.call 15 (.cons (.bi .len (.var 0)) (.cons (.var 2) .nil)))) .no [3])) (.cons (.ret (.var 2)) .nil) .nil) .nil) ρ')
    G [some (.arg, .tuple (rl.map iT)), some (.arg, iT lo), none, none] ⟨none, none, rfl⟩ fun gl hgl ρ hρ => by
      obtain ⟨z2, z3, rfl⟩ := hρ
      have e1 : evP (pre 16) (.comp (.call 13 (.cons (.var 0) (.cons (.var 3) (.cons (.var 1) (.cons (.var 2) .nil))))) (.name 3) (.ex (.call 15 (.cons (.bi .len (.var 0)) (.cons (.var 2) .nil)))) .no [3]) [some (.arg, .tuple (rl.map iT)), some (.arg, iT lo), some (.d, iT gl), z3] = .ok (.d, .list ((own n O gl).map fun o => .bool (bt (rl.map iT) lo o gl))) := by
        have ho : pre 16 15 [iN n, iT gl] = .ok (.list ((own n O gl).map iT)) := by rw [p_16_15]; exact P.own gl hgl
        have := P_compN (T := pre 16) (e := (.call 13 (.cons (.var 0) (.cons (.var 3) (.cons (.var 1) (.cons (.var 2) .nil)))))) (t := .name 3) (i := (.ex (.call 15 (.cons (.bi .len (.var 0)) (.cons (.var 2) .nil))))) (c := .no) (own := [3]) (ρ := [some (.arg, .tuple (rl.map iT)), some (.arg, iT lo), some (.d, iT gl), z3])
          (l := own n O gl) (k := iT) (p := fun _ => true) (g := fun o => .bool (bt (rl.map iT) lo o gl)) (by
            simp [I_ex, P_call, A_cons, A_nil, P_bi, P_var, getP, RQ.bind, len_rl h1, ofP, ho, srcP, Nat.le_trans own_len hO]) (fun o ho => by
            have : pre 16 13 [.tuple (rl.map iT), iT o, iT lo, iT gl] = .ok (.bool (bt (rl.map iT) lo o gl)) := by rw [p_16_13]; exact t13 P h1 h2 h3 (own_sub o ho) (P.gl gl hgl) (hGl gl hgl) rfl
            simp [cP, tgP, wipeP, ofP, RQ.bind, RQ.nox, C_no, P_call, A_cons, A_nil, P_var, getP, this, dP]) (Nat.le_trans own_len hO)
        rw [this, filter_all]
      have e2 := any_c e1
      have e3 : (own n O gl).any (fun o => bt (rl.map iT) lo o gl) = cb n O (rl.map iT) lo gl := rfl
      rw [e3] at e2
      refine ⟨fun hc => ?_, fun hc => ⟨_, ?_, some (.d, iT gl), z3, rfl⟩⟩
      · rw [hc] at e2
        simp [tgP, ofP, RQ.bind, B_cons, B_nil, X_ite, X_ret, e2, boolP, P_var, getP]
      · rw [hc] at e2
        simp [tgP, ofP, RQ.bind, B_cons, B_nil, X_ite, X_ret, e2, boolP, P_var, getP]
  rw [T_16]
  have hf : forP1 (pre 16) (.ex (.call 11 (.cons (.bi .len (.var 0)) .nil))) [some (.arg, .tuple (rl.map iT)), some (.arg, iT lo), none, none] = .ok (G.map iT) := by
    simp [F_ex, P_call, A_cons, A_nil, P_bi, P_var, getP, RQ.bind, len_rl h1, ofP, hg, notOwn, srcP, hG]
  have hl : ∀ q, forP (fun ρ x => (ofP (tgP (.name 2) x ρ)).bind fun ρ' => exsP (pre 16) (.cons (.ite (.bi .any (.comp (.call 13 (.cons (.var 0) (.cons (.var 3) (.cons (.var 1) (.cons (.var 2) .nil))))) (.name 3) (.ex (.call 15 (.cons (.bi .len (.var 0)) (.cons (.var 2) .nil)))) .no [3])) (.cons (.ret (.var 2)) .nil) .nil) .nil) ρ') (G.map iT) [some (.arg, .tuple (rl.map iT)), some (.arg, iT lo), none, none] = q →
      exP (pre 16) (.loop (.name 2) (.ex (.call 11 (.cons (.bi .len (.var 0)) .nil))) (.cons (.ite (.bi .any (.comp (.call 13 (.cons (.var 0) (.cons (.var 3) (.cons (.var 1) (.cons (.var 2) .nil))))) (.name 3) (.ex (.call 15 (.cons (.bi .len (.var 0)) (.cons (.var 2) .nil)))) .no [3])) (.cons (.ret (.var 2)) .nil) .nil) .nil)) [some (.arg, .tuple (rl.map iT)), some (.arg, iT lo), none, none] = q := fun q e => by
    rw [X_loop, hf]
    exact e
  unfold pick
  cases hfi : G.find? (cb n O (rl.map iT) lo) with
  | some g =>
    have := hl _ (step.1 g hfi)
    simp [runP, d_blocker, b_blocker, startP, B_cons, this, RQ.bind, rtP]
  | none =>
    obtain ⟨ρ', e, z2, z3, rfl⟩ := step.2 hfi
    have := hl _ e
    simp [runP, d_blocker, b_blocker, startP, B_cons, this, RQ.bind, rtP, X_ret, P_cst]
end
end K00
end PV
namespace PV
namespace K00
open PySem PySem.Spec PyProof.Rows L2
abbrev K1 : E := .cmp .eq (.bi .sorted (.comp (.ix (.var 6) (.var 7)) (.name 7) (.ex (.var 3)) .no [7])) (.bi .list (.var 3))
abbrev K2 : E := .cmp .eq (.comp (.var 7) (.name 7) (.ex (.var 4)) (.so (.and (.cmp .nmem (.var 7) (.var 3)) (.cmp .ne (.ix (.var 6) (.var 7)) (.var 7)))) [7]) (.lst .nil)
structure Pk (n : Nat) (O G : List (List Nat)) : Prop where
  k1 : ∀ o ∈ O, ∀ gl ∈ G, ∀ (T : TabP) z0 z1 z2 z4 z5 z7, evP T K1 [z0, z1, z2, some (.d, iT gl), z4, z5, some (.d, iT o), z7] = .ok (.d, .bool (kap1 o gl))
  k2 : ∀ o ∈ O, ∀ gl ∈ G, ∀ (T : TabP) z0 z1 z2 z5 z7, evP T K2 [z0, z1, z2, some (.d, iT gl), some (.d, .list ((List.range n).map iN)), z5, some (.d, iT o), z7] = .ok (.d, .bool (kap2 n o gl))
theorem pk2 : Pk 2 O2 G2 where
  k1 := by
    intro o ho gl hgl
    simp only [O2, G2, List.mem_cons, List.not_mem_nil, or_false] at ho hgl
    rcases ho with rfl | rfl <;> rcases hgl with rfl | rfl | rfl <;> (intros; kernel_rfl)
  k2 := by
    intro o ho gl hgl
    simp only [O2, G2, List.mem_cons, List.not_mem_nil, or_false] at ho hgl
    rcases ho with rfl | rfl <;> rcases hgl with rfl | rfl | rfl <;> (intros; kernel_rfl)
theorem pk3 : Pk 3 O3 G3 where
  k1 := by
    intro o ho gl hgl
    simp only [O3, G3, List.mem_cons, List.not_mem_nil, or_false] at ho hgl
    rcases ho with rfl | rfl | rfl | rfl | rfl | rfl <;> rcases hgl with rfl | rfl | rfl | rfl | rfl | rfl | rfl <;> (intros; kernel_rfl)
  k2 := by
    intro o ho gl hgl
    simp only [O3, G3, List.mem_cons, List.not_mem_nil, or_false] at ho hgl
    rcases ho with rfl | rfl | rfl | rfl | rfl | rfl <;> rcases hgl with rfl | rfl | rfl | rfl | rfl | rfl | rfl <;> (intros; kernel_rfl)
theorem eqv_iT : ∀ a b : List Nat, PyData.eqv (iT a) (iT b) = (a == b)
  | [], [] => rfl
  | [], _ :: _ => rfl
  | _ :: _, [] => rfl
  | x :: a, y :: b => by
    have ih := eqv_iT a b
    have ih' : PyData.eqvAll (a.map iN) (b.map iN) = (a == b) := ih
    show (((x : Int) == (y : Int)) && PyData.eqvAll (a.map iN) (b.map iN)) = (x :: a == y :: b)
    rw [ih', show (x :: a == y :: b) = ((x == y) && (a == b)) from rfl]
    have e : ((x : Int) == (y : Int)) = (x == y) := by
      rw [Bool.eq_iff_iff, beq_iff_eq, beq_iff_eq]
      omega
    rw [e]
theorem depth_iT (a : List Nat) : (iT a).depth ≤ 64 := by
  have h0 : ∀ x : Nat, (iN x).depth = 0 := fun x => by unfold iN PyData.depth; rfl
  have : ∀ l : List Nat, PyData.depthAll (l.map iN) ≤ 1 := fun l => by
    induction l with
    | nil => unfold PyData.depthAll; exact Nat.zero_le _
    | cons x r ih =>
      rw [List.map_cons]
      unfold PyData.depthAll
      rw [h0]
      omega
  have h := this a
  unfold iT PyData.depth
  omega
theorem ne_iT (a b : List Nat) : cmpD .ne (iT a) (iT b) = some (!(a == b)) := by
  show (if min (iT a).depth (iT b).depth ≤ 64 then some (!PyData.eqv (iT a) (iT b)) else none) = _
  rw [if_pos (Nat.le_trans (Nat.min_le_left _ _) (depth_iT a)), eqv_iT]
theorem bt_self (rs : List PyData) (lo gl : List Nat) : bt rs lo lo gl = false := by
  unfold bt
  have : gl.any (nT lo lo) = false := by
    rw [List.any_eq_false]
    intro p _
    simp [nT]
  rw [this, Bool.and_false]
/-- both say the same of a group -/
theorem same_c (n : Nat) (O : List (List Nat)) (rs : List PyData) (lo gl : List Nat) : (O.filter fun o => !(o == lo)).any (fun o => bt rs lo o gl && (kap1 o gl && kap2 n o gl)) = cb n O rs lo gl := by
  unfold cb own
  rw [List.any_filter, List.any_filter]
  congr 1
  funext o
  by_cases h : o = lo
  · subst h
    rw [bt_self]
    simp
  · have : (o == lo) = false := by simpa using h
    rw [this]
    cases bt rs lo o gl <;> simp
section
variable {n : Nat} {O G : List (List Nat)} {R : List PyData} {rl : List (List Nat)} {lo ld gr : List Nat}
abbrev inBody : Ss := .cons (.ite (.and (.call 20 (.cons (.var 0) (.cons (.var 6) (.cons (.var 1) (.cons (.var 3) .nil))))) K1) (.cons (.ite K2 (.cons (.ret (.var 3)) .nil) .nil) .nil) .nil) .nil
abbrev outBody : Ss := .cons (.loop (.name 6) (.ex (.var 2)) inBody) .nil
theorem t21_in (P : Pr n O G R) (Q : Pk n O G) (hO : O.length ≤ lim) (hGl : ∀ g ∈ G, g.length ≤ lim) (h1 : rl.length = n) (h2 : ∀ a ∈ rl, a ∈ O) (h3 : lo ∈ O) {gl : List Nat} (hgl : gl ∈ G) {z5 z6 z7 : Option VP} :
    let sm := O.filter fun o => !(o == lo)
    let c := fun o => bt (rl.map iT) lo o gl && (kap1 o gl && kap2 n o gl)
    let ρ := [some (Fg.arg, .tuple (rl.map iT)), some (.arg, iT lo), some (.d, .list (sm.map iT)), some (.d, iT gl), some (.d, .list ((List.range n).map iN)), z5, z6, z7]
    (sm.any c = true → exP (pre 21) (.loop (.name 6) (.ex (.var 2)) inBody) ρ = .ok (.rt (.d, iT gl))) ∧ (sm.any c = false → ∃ z6 z7, exP (pre 21) (.loop (.name 6) (.ex (.var 2)) inBody) ρ = .ok (.nx [some (Fg.arg, .tuple (rl.map iT)), some (.arg, iT lo), some (.d, .list (sm.map iT)), some (.d, iT gl), some (.d, .list ((List.range n).map iN)), z5, z6, z7])) := by
  intro sm c ρ
  have hsm : sm.length ≤ lim := Nat.le_trans (List.length_filter_le _ _) hO
  have step := forP_find (α := List Nat) (k := iT) (c := c) (v := fun _ => (Fg.d, iT gl)) (Inv := fun ρ => ∃ z6 z7, ρ = [some (Fg.arg, .tuple (rl.map iT)), some (.arg, iT lo), some (.d, .list (sm.map iT)), some (.d, iT gl), some (.d, .list ((List.range n).map iN)), z5, z6, z7])
    (f := fun ρ x => (ofP (tgP (.name 6) x ρ)).bind fun ρ' => exsP (pre 21) inBody ρ') sm ρ ⟨z6, z7, rfl⟩ fun o ho ρ hρ => by
      obtain ⟨z6, z7, rfl⟩ := hρ
      have hoO : o ∈ O := (List.mem_filter.mp ho).1
      have f1 : pre 21 20 [.tuple (rl.map iT), iT o, iT lo, iT gl] = .ok (.bool (bt (rl.map iT) lo o gl)) := by rw [p_21_20]; exact t20 P h1 h2 h3 hoO (P.gl gl hgl) (hGl gl hgl) rfl
      have f2 := fun z0 z1 z2 z4 z5 z7 => Q.k1 o hoO gl hgl (pre 21) z0 z1 z2 z4 z5 z7
      have f3 := fun z0 z1 z2 z5 z7 => Q.k2 o hoO gl hgl (pre 21) z0 z1 z2 z5 z7
      have hc : c o = (bt (rl.map iT) lo o gl && (kap1 o gl && kap2 n o gl)) := rfl
      rw [hc]
      cases b1 : bt (rl.map iT) lo o gl <;> rw [b1] at f1 <;> cases b2 : kap1 o gl <;> rw [b2] at f2 <;> cases b3 : kap2 n o gl <;> rw [b3] at f3 <;>
        refine ⟨fun hc => ?_, fun hc => ?_⟩ <;> first
          | (simp at hc; done)
          | simp [tgP, ofP, RQ.bind, B_cons, B_nil, X_ite, X_ret, P_and, P_call, A_cons, A_nil, P_var, getP, f1, f2, f3, boolP]
          | exact ⟨_, by simp [tgP, ofP, RQ.bind, B_cons, B_nil, X_ite, X_ret, P_and, P_call, A_cons, A_nil, P_var, getP, f1, f2, f3, boolP], _, _, rfl⟩
  have hf : forP1 (pre 21) (.ex (.var 2)) ρ = .ok (sm.map iT) := by
    simp [ρ, F_ex, P_var, getP, RQ.bind, ofP, notOwn, srcP, hsm]
  have hl : ∀ q, forP (fun ρ x => (ofP (tgP (.name 6) x ρ)).bind fun ρ' => exsP (pre 21) inBody ρ') (sm.map iT) ρ = q → exP (pre 21) (.loop (.name 6) (.ex (.var 2)) inBody) ρ = q := fun q e => by
    rw [X_loop, hf]
    exact e
  refine ⟨fun ha => ?_, fun ha => ?_⟩
  · obtain ⟨o, ho, hco⟩ := List.any_eq_true.mp ha
    cases hfi : sm.find? c with
    | some g => exact hl _ (step.1 g hfi)
    | none => exact absurd hco (by have := List.find?_eq_none.mp hfi o ho; simpa using this)
  · have hfi : sm.find? c = none := List.find?_eq_none.mpr fun o ho => by
      have := List.any_eq_false.mp ha o ho
      simpa using this
    obtain ⟨ρ', e, z6, z7, rfl⟩ := step.2 hfi
    exact ⟨z6, z7, hl _ e⟩
theorem t21 (P : Pr n O G R) (Q : Pk n O G) (hO : O.length ≤ lim) (hG : G.length ≤ lim) (hGl : ∀ g ∈ G, g.length ≤ lim) (hg2 : n = 2 → G = G2) (hg3 : n = 3 → G = G3) (h1 : rl.length = n) (h2 : ∀ a ∈ rl, a ∈ O) (h3 : lo ∈ O) : TP 21 [.tuple (rl.map iT), iT lo] = .ok (pick G (cb n O (rl.map iT) lo)) := by
  have hsame : (fun gl => (O.filter fun o => !(o == lo)).any fun o => bt (rl.map iT) lo o gl && (kap1 o gl && kap2 n o gl)) = cb n O (rl.map iT) lo := funext fun gl => same_c n O (rl.map iT) lo gl
  have step := forP_find (α := List Nat) (k := iT) (c := fun gl => (O.filter fun o => !(o == lo)).any fun o => bt (rl.map iT) lo o gl && (kap1 o gl && kap2 n o gl)) (v := fun g => (Fg.d, iT g))
    (Inv := fun ρ => ∃ z3 z6 z7, ρ = [some (Fg.arg, .tuple (rl.map iT)), some (.arg, iT lo), some (.d, .list ((O.filter fun o => !(o == lo)).map iT)), z3, some (.d, .list ((List.range n).map iN)), some (.d, .list (G.map iT)), z6, z7])
    (f := fun ρ x => (ofP (tgP (.name 3) x ρ)).bind fun ρ' => exsP (pre 21) outBody ρ') G [some (Fg.arg, .tuple (rl.map iT)), some (.arg, iT lo), some (.d, .list ((O.filter fun o => !(o == lo)).map iT)), none, some (.d, .list ((List.range n).map iN)), some (.d, .list (G.map iT)), none, none] ⟨none, none, none, rfl⟩ fun gl hgl ρ hρ => by
      obtain ⟨z3, z6, z7, rfl⟩ := hρ
      obtain ⟨i1, i2⟩ := t21_in P Q hO hGl h1 h2 h3 hgl (z5 := some (.d, .list (G.map iT))) (z6 := z6) (z7 := z7)
      refine ⟨fun hc => ?_, fun hc => ?_⟩
      · have := i1 hc
        simp [tgP, ofP, RQ.bind, B_cons, B_nil, this]
      · obtain ⟨y6, y7, this⟩ := i2 hc
        exact ⟨[some (Fg.arg, .tuple (rl.map iT)), some (.arg, iT lo), some (.d, .list ((O.filter fun o => !(o == lo)).map iT)), some (.d, iT gl), some (.d, .list ((List.range n).map iN)), some (.d, .list (G.map iT)), y6, y7], by simp [tgP, ofP, RQ.bind, B_cons, B_nil, this], _, _, _, rfl⟩
  rw [hsame] at step
  have e1 : ∀ z4 z5, evP (pre 21) (.comp (.var 6) (.name 6) (.ex (.call 18 (.cons (.bi .len (.var 0)) .nil))) (.so (.cmp .ne (.var 6) (.var 1))) [6]) [some (.arg, .tuple (rl.map iT)), some (.arg, iT lo), none, none, z4, z5, none, none] = .ok (.d, .list ((O.filter fun o => !(o == lo)).map iT)) := fun z4 z5 =>
    P_compN (l := O) (k := iT) (p := fun o => !(o == lo)) (g := iT) (by
      have : pre 21 18 [iN n] = .ok (.list (O.map iT)) := by rw [p_21_18]; exact P.l
      simp [I_ex, P_call, A_cons, A_nil, P_bi, P_var, getP, RQ.bind, len_rl h1, ofP, this, srcP, hO]) (fun o ho => by
      cases hb : (o == lo) <;> simp [cP, tgP, wipeP, ofP, RQ.bind, RQ.nox, C_so, P_cmp, P_var, getP, ne_iT, hb, boolP, dP]) hO
  have hf : forP1 (pre 21) (.ex (.var 5)) [some (Fg.arg, .tuple (rl.map iT)), some (.arg, iT lo), some (.d, .list ((O.filter fun o => !(o == lo)).map iT)), none, some (.d, .list ((List.range n).map iN)), some (.d, .list (G.map iT)), none, none] = .ok (G.map iT) := by
    simp [F_ex, P_var, getP, RQ.bind, ofP, notOwn, srcP, hG]
  have hl : ∀ q, forP (fun ρ x => (ofP (tgP (.name 3) x ρ)).bind fun ρ' => exsP (pre 21) outBody ρ') (G.map iT) [some (Fg.arg, .tuple (rl.map iT)), some (.arg, iT lo), some (.d, .list ((O.filter fun o => !(o == lo)).map iT)), none, some (.d, .list ((List.range n).map iN)), some (.d, .list (G.map iT)), none, none] = q →
      exP (pre 21) (.loop (.name 3) (.ex (.var 5)) outBody) [some (Fg.arg, .tuple (rl.map iT)), some (.arg, iT lo), some (.d, .list ((O.filter fun o => !(o == lo)).map iT)), none, some (.d, .list ((List.range n).map iN)), some (.d, .list (G.map iT)), none, none] = q := fun q e => by
    rw [X_loop, hf]
    exact e
  have a1 : evP (pre 21) (.lrng (.bi .len (.var 0))) [some (.arg, .tuple (rl.map iT)), some (.arg, iT lo), none, none, none, none, none, none] = .ok (.d, .list ((List.range n).map iN)) := by
    simp [P_lrng, P_bi, P_var, getP, RQ.bind, len_rl h1, ofP, intP, iN, rng_n P]
  have a2 : ∀ ρ, evP (pre 21) (.lst (.cons (.tup (.cons (.cst (.int 0)) .nil)) (.cons (.tup (.cons (.cst (.int 1)) .nil)) (.cons (.tup (.cons (.cst (.int 0)) (.cons (.cst (.int 1)) .nil))) .nil)))) ρ = .ok (.d, .list (G2.map iT)) := fun ρ => by kernel_rfl
  have a3 : ∀ ρ, evP (pre 21) (.lst (.cons (.tup (.cons (.cst (.int 0)) .nil)) (.cons (.tup (.cons (.cst (.int 1)) .nil)) (.cons (.tup (.cons (.cst (.int 2)) .nil)) (.cons (.tup (.cons (.cst (.int 0)) (.cons (.cst (.int 1)) .nil))) (.cons (.tup (.cons (.cst (.int 0)) (.cons (.cst (.int 2)) .nil))) (.cons (.tup (.cons (.cst (.int 1)) (.cons (.cst (.int 2)) .nil))) (.cons (.tup (.cons (.cst (.int 0)) (.cons (.cst (.int 1)) (.cons (.cst (.int 2)) .nil)))) .nil)))))))) ρ = .ok (.d, .list (G3.map iT)) := fun ρ => by kernel_rfl
  have a4 : biD .len (.tuple (rl.map iT)) = some (.int (n : Int)) := len_rl h1
  rw [T_21]
  have body : ∀ q, (exP (pre 21) (.loop (.name 3) (.ex (.var 5)) outBody) [some (Fg.arg, .tuple (rl.map iT)), some (.arg, iT lo), some (.d, .list ((O.filter fun o => !(o == lo)).map iT)), none, some (.d, .list ((List.range n).map iN)), some (.d, .list (G.map iT)), none, none] = q) →
      runP (pre 21) d_law_blocker.f [.tuple (rl.map iT), iT lo] = ((q.bind fun f => (match f with
      | .nx ρ' => exsP (pre 21) (.cons (.ret (.cst .none)) .nil) ρ'
      | .rt w => .ok (.rt w))).bind fun fl => (match fl with
      | .nx _ => .ok .none
      | .rt v => rtP v)) := fun q e => by
    rcases P.small with hn | hn
    · have hG2 := hg2 hn
      subst hn hG2
      have a4 : biD .len (.tuple (rl.map iT)) = some (.int 2) := a4
      simp [runP, d_law_blocker, b_law_blocker, startP, B_cons, B_nil, X_par, X_ite, X_asg, stP, a1, a2, a3, a4, P_cmp, P_bi, P_var, P_cst, getP, RQ.bind, ofP, cmpD, PyData.depth, PyData.eqv, boolP, e1]
      first | (simp only [← e]; done) | (simp only [← e]; rfl)
    · have hG3 := hg3 hn
      subst hn hG3
      have a4 : biD .len (.tuple (rl.map iT)) = some (.int 3) := a4
      simp [runP, d_law_blocker, b_law_blocker, startP, B_cons, B_nil, X_par, X_ite, X_asg, stP, a1, a2, a3, a4, P_cmp, P_bi, P_var, P_cst, getP, RQ.bind, ofP, cmpD, PyData.depth, PyData.eqv, boolP, e1]
      first | (simp only [← e]; done) | (simp only [← e]; rfl)
  unfold pick
  cases hfi : G.find? (cb n O (rl.map iT) lo) with
  | some g =>
    rw [body _ (hl _ (step.1 g hfi))]
    rfl
  | none =>
    obtain ⟨ρ', e, z3, z6, z7, rfl⟩ := step.2 hfi
    rw [body _ (hl _ e)]
    simp [RQ.bind, B_cons, X_ret, P_cst, rtP]
end
end K00
end PV
namespace PV
namespace K00
open PySem PySem.Spec PyProof.Rows L2
theorem t17 {n : Nat} {O G : List (List Nat)} {R : List PyData} {rl : List (List Nat)} {lo : List Nat} (P : Pr n O G R) (hO : O.length ≤ lim) (hG : G.length ≤ lim) (hGl : ∀ g ∈ G, g.length ≤ lim) (hx : PyData.tuple (rl.map iT) ∈ R) (h1 : rl.length = n) (h2 : ∀ a ∈ rl, a ∈ O) (h3 : lo ∈ O) : TP 17 [.tuple (rl.map iT), iT lo] = .ok (pick G (cb n O (rl.map iT) lo)) := by
  have f1 : pre 17 10 [.tuple (rl.map iT), iT lo] = .ok .none := by rw [p_17_10]; exact t10 P hx h3
  have f2 := t16 P hO hG hGl h1 h2 h3
  rw [← p_17_16] at f2
  rw [T_17]
  have hd : ∀ c, ∃ x, pick G c = x ∧ True := fun c => ⟨_, rfl, trivial⟩
  generalize pick G (cb n O (rl.map iT) lo) = z at f2 ⊢
  simp [runP, d_blocking_group, b_blocking_group, startP, B_cons, B_nil, X_ex, X_ret, P_call, A_cons, A_nil, P_var, getP, RQ.bind, f1, f2, rtP]
theorem al_pick {n : Nat} {O G : List (List Nat)} {R : List PyData} (P : Pr n O G R) (hGl : ∀ g ∈ G, g.length ≤ lim) (c : List Nat → Bool) : TP 4 [pick G c, pick G c] = .ok (.bool true) := by
  unfold pick
  cases h : G.find? c with
  | none => exact al4N
  | some g => exact al4T g (hGl g (List.mem_of_find?_eq_some h))
/-- the rest of the law, behind the draws -/
theorem rest {n : Nat} {O G : List (List Nat)} {R : List PyData} (P : Pr n O G R) (Q : Pk n O G) (hO : O.length ≤ lim) (hG : G.length ≤ lim) (hGl : ∀ g ∈ G, g.length ≤ lim) (hg2 : n = 2 → G = G2) (hg3 : n = 3 → G = G3) {x y : PyData} (hx : x ∈ R) (hy : y ∈ O.map iT) :
    ∃ L z, TP 24 [x, y] = .ok (.tuple L) ∧ TP 29 [x, y] = .ok (.list L) ∧ TP 4 [.tuple L, .tuple L] = .ok (.bool true) ∧ TP 17 [x, y] = .ok z ∧ TP 21 [x, y] = .ok z ∧ TP 4 [z, z] = .ok (.bool true) := by
  obtain ⟨lo, h3, rfl⟩ := List.mem_map.mp hy
  obtain ⟨rl, rfl, h1, h2⟩ := P.rl x hx
  refine ⟨_, _, t24 P hO hx h1 h2 h3, t29 P hO h1 h2 h3, ?_, t17 P hO hG hGl hx h1 h2 h3, t21 P Q hO hG hGl hg2 hg3 h1 h2 h3, al_pick P hGl _⟩
  exact al4L _ (Nat.le_trans (List.length_filter_le _ _) hO) fun a ha => by rw [(P.ol a (List.mem_filter.mp ha).1).1]; exact n_lim P
theorem law_n {n : Nat} {O G : List (List Nat)} {R : List PyData} (P : Pr n O G R) (Q : Pk n O G) (hO : O.length ≤ lim) (hG : G.length ≤ lim) (hGl : ∀ g ∈ G, g.length ≤ lim) (hg2 : n = 2 → G = G2) (hg3 : n = 3 → G = G3) (hR : R.length ≤ lim) (hO0 : 0 < O.length) (hR0 : 0 < R.length) (ns : List Int) {c : Cell} (hc : RowS ns c) {v : Int} (hv : 2 + v = (n : Int)) (c0 : Cell)
    (h5 : tabOf ds 5 0 [.l 0, .d (.int 2)] [c0] = .ok (.d (.int v)) [c]) (h0 : c0 = rowC ns 0 15720 0) : run (tabOf ds) dl.f 0 [.d (.list (ns.map .int))] [] = .ok (.d (.bool true)) [] := by
  have hlim : lim = 100000 := rfl
  have t6 : tabOf ds 6 = run (tabOf (ds.take 6)) (f_pick 5) := tabOf_at (i := 6) (d := d_law_pick) rfl
  have hT : ∃ T', tabOf (ds.take 6) 5 = run T' f_taken := ⟨_, tabOf_at (ds := ds.take 6) (i := 5) (d := d_law_taken) rfl⟩
  obtain ⟨x, c2, hx, hc2, e6⟩ := pick_ok hT ns (xs := R) hR0 (by omega) hc []
  obtain ⟨y, c3, hy, hc3, e7⟩ := pick_ok hT ns (xs := O.map iT) (by simpa using hO0) (by simp; omega) hc2 []
  rw [← t6] at e6 e7
  obtain ⟨L, z, r1, r2, r3, r4, r5, r6⟩ := rest P Q hO hG hGl hg2 hg3 hx hy
  have k1 := fun m => call_d (ds := ds) P.d 0 m
  have k2 := fun m => call_d (ds := ds) P.l 0 m
  have k3 := fun m => call_d (ds := ds) P.r 0 m
  have k4 := fun m => call_d (ds := ds) P.m 0 m
  have k5 := fun m => call_d (ds := ds) (al4L O hO fun a ha => by rw [(P.ol a ha).1]; exact n_lim P) 0 m
  have k6 := fun m => call_d (ds := ds) (al4R P hR) 0 m
  have k7 := fun m => call_d (ds := ds) r1 0 m
  have k8 := fun m => call_d (ds := ds) r2 0 m
  have k9 := fun m => call_d (ds := ds) r3 0 m
  have k10 := fun m => call_d (ds := ds) r4 0 m
  have k11 := fun m => call_d (ds := ds) r5 0 m
  have k12 := fun m => call_d (ds := ds) r6 0 m
  simp only [List.map_cons, List.map_nil] at k1 k2 k3 k4 k5 k6 k7 k8 k9 k10 k11 k12
  simp only [iN] at k1 k2 k3 k4
  have e0 : rowC ns 0 15720 0 = Cell.lst [.d (.list (ns.map .int)), .d (.int 0), .d (.int 15720), .d (.int 0)] := rfl
  rw [h0, e0] at h5
  simp [run, dl, d_law, b_law, startE, exs, ex, ev, evs, getV, dataOf, boolOf, ofO, PV.R.bind, rdW, binD, biD, h5, hv, k1, k2, k3, k4, k5, k6, k7, k8, k9, k10, k11, k12, e6, e7, finP, lim]
theorem pure : ∀ ns : List Int, ns.length ≤ 63 → ∃ m, run (tabOf ds) dl.f 0 [.d (.list (ns.map .int))] [] = .ok (.d (.bool true)) m := by
  intro ns _
  have t5 : tabOf ds 5 = run (tabOf (ds.take 5)) f_taken := tabOf_at (i := 5) (d := d_law_taken) rfl
  obtain ⟨v, c', hv0, hv1, hc', e5⟩ := taken_ok (tabOf (ds.take 5)) ns (n := 2) (by omega) (by omega) (c := rowC ns 0 15720 0) ⟨0, 15720, 0, rfl, by omega, by omega⟩ []
  rw [← t5] at e5
  refine ⟨[], ?_⟩
  have hlim : lim = 100000 := rfl
  by_cases h : v = 0
  · exact law_n pr2 pk2 (by decide) (by decide) (by decide) (fun _ => rfl) (fun z => by cases z) (by decide) (by decide) (by decide) ns hc' (v := v) (by omega) _ e5 rfl
  · exact law_n pr3 pk3 (by decide) (by decide) (by decide) (fun z => by cases z) (fun _ => rfl) (by decide) (by decide) (by decide) ns hc' (v := v) (by omega) _ e5 rfl
end K00
end PV
namespace PV
namespace K00
open PySem PySem.Spec PyProof.Rows L2
def xs : List (Str × Stmt) := [("_law_alike", top 27), ("_law_taken", top 25), ("_law_pick", top 26), ("is_integer", top 7), ("is_order", top 13), ("need_row", top 14), ("need_dealing", top 15), ("groups_of", top 20), ("is_ahead", top 16), ("is_better", top 17), ("orders_of", top 9), ("own_dealings", top 21), ("blocker", top 22), ("blocking_group", top 23), ("_law_orders", top 28), ("_law_before", top 30), ("_law_gains", top 31), ("_law_blocker", top 33), ("_law_rows", top 29), ("better_of", top 18), ("better", top 19), ("need_people", top 8), ("dealings", top 10), ("rows_of", top 11), ("rows", top 12), ("_law_better", top 32), ("law", top 34)]
theorem bd_law_alike_1 : BindOk d_law_alike_1 := fun _ _ _ _ _ _ us hl => match us, hl with | [_, _], _ => rfl
theorem bd_law_alike_2 : BindOk d_law_alike_2 := bd_law_alike_1
theorem bd_law_alike_3 : BindOk d_law_alike_3 := bd_law_alike_1
theorem bd_law_alike_4 : BindOk d_law_alike_4 := bd_law_alike_1
theorem bd_law_alike_5 : BindOk d_law_alike_5 := bd_law_alike_1
theorem bd_law_taken : BindOk d_law_taken := fun _ _ _ _ _ _ us hl => match us, hl with | [_, _], _ => rfl
theorem bd_law_pick : BindOk d_law_pick := fun _ _ _ _ _ _ us hl => match us, hl with | [_, _], _ => rfl
theorem bd_is_integer : BindOk d_is_integer := fun _ _ _ _ _ _ us hl => match us, hl with | [_], _ => rfl
theorem bd_is_order : BindOk d_is_order := fun _ _ _ _ _ _ us hl => match us, hl with | [_, _], _ => rfl
theorem bd_need_row : BindOk d_need_row := fun _ _ _ _ _ _ us hl => match us, hl with | [_], _ => rfl
theorem bd_need_dealing : BindOk d_need_dealing := fun _ _ _ _ _ _ us hl => match us, hl with | [_, _], _ => rfl
theorem bd_groups_of : BindOk d_groups_of := fun _ _ _ _ _ _ us hl => match us, hl with | [_], _ => rfl
theorem bd_is_ahead : BindOk d_is_ahead := fun _ _ _ _ _ _ us hl => match us, hl with | [_, _, _], _ => rfl
theorem bd_is_better : BindOk d_is_better := fun _ _ _ _ _ _ us hl => match us, hl with | [_, _, _, _], _ => rfl
theorem bd_orders_of : BindOk d_orders_of := fun _ _ _ _ _ _ us hl => match us, hl with | [_], _ => rfl
theorem bd_own_dealings : BindOk d_own_dealings := fun _ _ _ _ _ _ us hl => match us, hl with | [_, _], _ => rfl
theorem bd_blocker : BindOk d_blocker := fun _ _ _ _ _ _ us hl => match us, hl with | [_, _], _ => rfl
theorem bd_blocking_group : BindOk d_blocking_group := fun _ _ _ _ _ _ us hl => match us, hl with | [_, _], _ => rfl
theorem bd_law_orders : BindOk d_law_orders := fun _ _ _ _ _ _ us hl => match us, hl with | [_], _ => rfl
theorem bd_law_before : BindOk d_law_before := fun _ _ _ _ _ _ us hl => match us, hl with | [_, _, _], _ => rfl
theorem bd_law_gains : BindOk d_law_gains := fun _ _ _ _ _ _ us hl => match us, hl with | [_, _, _, _], _ => rfl
theorem bd_law_blocker : BindOk d_law_blocker := fun _ _ _ _ _ _ us hl => match us, hl with | [_, _], _ => rfl
theorem bd_law_rows : BindOk d_law_rows := fun _ _ _ _ _ _ us hl => match us, hl with | [_], _ => rfl
theorem bd_better_of : BindOk d_better_of := fun _ _ _ _ _ _ us hl => match us, hl with | [_, _], _ => rfl
theorem bd_better : BindOk d_better := fun _ _ _ _ _ _ us hl => match us, hl with | [_, _], _ => rfl
theorem bd_need_people : BindOk d_need_people := fun _ _ _ _ _ _ us hl => match us, hl with | [_], _ => rfl
theorem bd_dealings : BindOk d_dealings := fun _ _ _ _ _ _ us hl => match us, hl with | [_], _ => rfl
theorem bd_rows_of : BindOk d_rows_of := fun _ _ _ _ _ _ us hl => match us, hl with | [_], _ => rfl
theorem bd_rows : BindOk d_rows := fun _ _ _ _ _ _ us hl => match us, hl with | [_], _ => rfl
theorem bd_law_better : BindOk d_law_better := fun _ _ _ _ _ _ us hl => match us, hl with | [_, _], _ => rfl
theorem bd_law : BindOk d_law := fun _ _ _ _ _ _ us hl => match us, hl with | [_], _ => rfl
theorem binds : ∀ d ∈ ds, BindOk d := List.forall_mem_cons.mpr ⟨bd_law_alike_1, List.forall_mem_cons.mpr ⟨bd_law_alike_2, List.forall_mem_cons.mpr ⟨bd_law_alike_3, List.forall_mem_cons.mpr ⟨bd_law_alike_4, List.forall_mem_cons.mpr ⟨bd_law_alike_5, List.forall_mem_cons.mpr ⟨bd_law_taken, List.forall_mem_cons.mpr ⟨bd_law_pick, List.forall_mem_cons.mpr ⟨bd_is_integer, List.forall_mem_cons.mpr ⟨bd_is_order, List.forall_mem_cons.mpr ⟨bd_need_row, List.forall_mem_cons.mpr ⟨bd_need_dealing, List.forall_mem_cons.mpr ⟨bd_groups_of, List.forall_mem_cons.mpr ⟨bd_is_ahead, List.forall_mem_cons.mpr ⟨bd_is_better, List.forall_mem_cons.mpr ⟨bd_orders_of, List.forall_mem_cons.mpr ⟨bd_own_dealings, List.forall_mem_cons.mpr ⟨bd_blocker, List.forall_mem_cons.mpr ⟨bd_blocking_group, List.forall_mem_cons.mpr ⟨bd_law_orders, List.forall_mem_cons.mpr ⟨bd_law_before, List.forall_mem_cons.mpr ⟨bd_law_gains, List.forall_mem_cons.mpr ⟨bd_law_blocker, List.forall_mem_cons.mpr ⟨bd_law_rows, List.forall_mem_cons.mpr ⟨bd_better_of, List.forall_mem_cons.mpr ⟨bd_better, List.forall_mem_cons.mpr ⟨bd_need_people, List.forall_mem_cons.mpr ⟨bd_dealings, List.forall_mem_cons.mpr ⟨bd_rows_of, List.forall_mem_cons.mpr ⟨bd_rows, List.forall_mem_cons.mpr ⟨bd_law_better, fun _ h => nomatch h⟩⟩⟩⟩⟩⟩⟩⟩⟩⟩⟩⟩⟩⟩⟩⟩⟩⟩⟩⟩⟩⟩⟩⟩⟩⟩⟩⟩⟩⟩
theorem inxs : ∀ d ∈ ds, (d.x, d.st) ∈ xs := List.forall_mem_cons.mpr ⟨(mem_at 0 rfl), List.forall_mem_cons.mpr ⟨(mem_at 0 rfl), List.forall_mem_cons.mpr ⟨(mem_at 0 rfl), List.forall_mem_cons.mpr ⟨(mem_at 0 rfl), List.forall_mem_cons.mpr ⟨(mem_at 0 rfl), List.forall_mem_cons.mpr ⟨(mem_at 1 rfl), List.forall_mem_cons.mpr ⟨(mem_at 2 rfl), List.forall_mem_cons.mpr ⟨(mem_at 3 rfl), List.forall_mem_cons.mpr ⟨(mem_at 4 rfl), List.forall_mem_cons.mpr ⟨(mem_at 5 rfl), List.forall_mem_cons.mpr ⟨(mem_at 6 rfl), List.forall_mem_cons.mpr ⟨(mem_at 7 rfl), List.forall_mem_cons.mpr ⟨(mem_at 8 rfl), List.forall_mem_cons.mpr ⟨(mem_at 9 rfl), List.forall_mem_cons.mpr ⟨(mem_at 10 rfl), List.forall_mem_cons.mpr ⟨(mem_at 11 rfl), List.forall_mem_cons.mpr ⟨(mem_at 12 rfl), List.forall_mem_cons.mpr ⟨(mem_at 13 rfl), List.forall_mem_cons.mpr ⟨(mem_at 14 rfl), List.forall_mem_cons.mpr ⟨(mem_at 15 rfl), List.forall_mem_cons.mpr ⟨(mem_at 16 rfl), List.forall_mem_cons.mpr ⟨(mem_at 17 rfl), List.forall_mem_cons.mpr ⟨(mem_at 18 rfl), List.forall_mem_cons.mpr ⟨(mem_at 19 rfl), List.forall_mem_cons.mpr ⟨(mem_at 20 rfl), List.forall_mem_cons.mpr ⟨(mem_at 21 rfl), List.forall_mem_cons.mpr ⟨(mem_at 22 rfl), List.forall_mem_cons.mpr ⟨(mem_at 23 rfl), List.forall_mem_cons.mpr ⟨(mem_at 24 rfl), List.forall_mem_cons.mpr ⟨(mem_at 25 rfl), fun _ h => nomatch h⟩⟩⟩⟩⟩⟩⟩⟩⟩⟩⟩⟩⟩⟩⟩⟩⟩⟩⟩⟩⟩⟩⟩⟩⟩⟩⟩⟩⟩⟩
theorem inxl : (dl.x, dl.st) ∈ xs := mem_at 26 rfl
theorem nodb : ∀ d ∈ ds, (d.x == ("__debug__" : Str)) = false := List.forall_mem_cons.mpr ⟨(by decide), List.forall_mem_cons.mpr ⟨(by decide), List.forall_mem_cons.mpr ⟨(by decide), List.forall_mem_cons.mpr ⟨(by decide), List.forall_mem_cons.mpr ⟨(by decide), List.forall_mem_cons.mpr ⟨(by decide), List.forall_mem_cons.mpr ⟨(by decide), List.forall_mem_cons.mpr ⟨(by decide), List.forall_mem_cons.mpr ⟨(by decide), List.forall_mem_cons.mpr ⟨(by decide), List.forall_mem_cons.mpr ⟨(by decide), List.forall_mem_cons.mpr ⟨(by decide), List.forall_mem_cons.mpr ⟨(by decide), List.forall_mem_cons.mpr ⟨(by decide), List.forall_mem_cons.mpr ⟨(by decide), List.forall_mem_cons.mpr ⟨(by decide), List.forall_mem_cons.mpr ⟨(by decide), List.forall_mem_cons.mpr ⟨(by decide), List.forall_mem_cons.mpr ⟨(by decide), List.forall_mem_cons.mpr ⟨(by decide), List.forall_mem_cons.mpr ⟨(by decide), List.forall_mem_cons.mpr ⟨(by decide), List.forall_mem_cons.mpr ⟨(by decide), List.forall_mem_cons.mpr ⟨(by decide), List.forall_mem_cons.mpr ⟨(by decide), List.forall_mem_cons.mpr ⟨(by decide), List.forall_mem_cons.mpr ⟨(by decide), List.forall_mem_cons.mpr ⟨(by decide), List.forall_mem_cons.mpr ⟨(by decide), List.forall_mem_cons.mpr ⟨(by decide), fun _ h => nomatch h⟩⟩⟩⟩⟩⟩⟩⟩⟩⟩⟩⟩⟩⟩⟩⟩⟩⟩⟩⟩⟩⟩⟩⟩⟩⟩⟩⟩⟩⟩
theorem prog : progB [] [] ds = true := by decide +kernel
theorem progl : fnB ⟨dl.N, ds.map (·.x), []⟩ dl.f dl.st = true := by decide +kernel
def lo0 : List PySem.Str := ["DealError", "BadPeople", "BadRow", "BadDealing", "NotAlike", "is_integer", "need_people", "orders_of", "dealings", "rows_of", "rows", "is_order", "need_row", "need_dealing", "is_ahead", "is_better", "better_of", "better", "groups_of", "own_dealings", "blocker", "blocking_group", "_law_taken", "_law_pick", "_law_alike", "_law_orders", "_law_rows", "_law_before", "_law_gains", "_law_better"]
def lo1 : List PySem.Str := ["_law_blocker"]
def loose : List PySem.Str := lo0 ++ lo1
abbrev R : PySem.W.OpenRow := PySem.W.OpenLaw.row PySem.Challenge.rw_dealclashes_k00_whole_rows
abbrev hk : PySem.W.Hook := He.hookE 5 (faL xs) (fnL xs)
def ob (s : PySem.W.SharedT) : He.Al := He.obsG 5 (faL xs) (fnL xs) (HandSHeadRun.getT s)
theorem ob_eq (s : PySem.W.SharedT) : ob s = hk.obs s.abs := He.obsG_eq (HandSHeadRun.getT_eq s)
theorem run (w : World) : HandSHeadRun.RunEq R (PySem.W.view R.prog [34]) hk ob 20000 loose w := by
  intro os
  kernel_rfl
end K00
end PV
open PySem PySem.W PySem.Calls PyProof.Rows
theorem PySem.Challenge.cw_dealclashes_k00_whole_rows_holds : PySem.Challenge.rw_dealclashes_k00_whole_rows.Holds := by
  w_on; o_law
  refine HandSHeadRun.head_any (r := OpenLaw.row PySem.Challenge.rw_dealclashes_k00_whole_rows) (q := view (OpenLaw.row PySem.Challenge.rw_dealclashes_k00_whole_rows).prog [34]) (H := PV.K00.hk) (ob := PV.K00.ob) (M := 20000) (loose := PV.K00.loose) (d := HandSHeadRun.topDef (OpenLaw.row PySem.Challenge.rw_dealclashes_k00_whole_rows).prog 34) (kwd := []) PV.K00.ob_eq
    (by kernel_rfl) (fun s => by kernel_rfl) PV.K00.run (by kernel_rfl) (by kernel_rfl) (by kernel_rfl) (by rfl) (by first | assumption | decide +kernel) (by decide +kernel) ⟨rfl, rfl, rfl, rfl, rfl, by decide +kernel⟩ ?hw ?hc
  case hw => w_witness2
  case hc =>
    refine L2.walk_ofE (l := PySem.Challenge.rw_dealclashes_k00_whole_rows) (n := 63) (k := PV.K00.ds.length + 1) (x := "_law_script") (CX := L2.CX0) rfl (by decide) (by kernel_rfl) ⟨rfl, by decide, by decide⟩ ?F (fun _ _ _ _ z => z)
    intro w mg fa h Y G hmg0
    obtain ⟨K, KX, c⟩ := Y
    have hmg : mg PV.K00.dl.x = some (.ref fa) := by
      have e : (HandSHeadRun.topDef (OpenLaw.row PySem.Challenge.rw_dealclashes_k00_whole_rows).prog 34).name = PV.K00.dl.x := by kernel_rfl
      rw [← e]
      exact hmg0
    exact PV.end_ok KX G c PV.K00.inxs PV.K00.inxl PV.K00.binds PV.K00.bd_law PV.K00.nodb PV.K00.prog PV.K00.progl rfl rfl hmg PV.K00.pure
