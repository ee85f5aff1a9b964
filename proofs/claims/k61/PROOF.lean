import PyProof.Rows.All
import Wide.All
import OpenK.AllK
import Wide.FinOn
import HandS.Base
import HandS.Call
import HandS.List
import HandS.Comp
import HandS.Ends
import HandS.Words
import HandS.Defaults
import HandS.Iter
import HandS.TupSets
import HandS.Deep
import HandS.Conv
import HandS.IsInst
import HandS.TupAny
import HandS.TupLen
import HandS.Style
import HandS.NoneIn
import HandS.Wide
import HandS.Dict
import HandS.HeadHook1
import HandS.HeadHook2
import HandS.CallRecv
import HandS.HeadWalk
import HandS.DictTup
import KE.GoesEnum
import HandS.SetFor
import HandS.Zip
import KE.KDictCopyH
import KE.KDictOf
import KE.KDictZip
import KE.KUnpackStar
import KE.KStateDown
import Lean
import HandS.More
import HandS.Head0
import HandS.Head1
import HandS.Head2
import HandS.HeadEnd
import PySem.Challenge.RW_huebound_k61_whole_trees_changed
set_option Elab.async false
set_option linter.all false
set_option maxRecDepth 100000
set_option maxHeartbeats 4000000
/-! DL1: plain data D, a store Mu of the objects that change, and what a reading gives in these words. -/
namespace DL
open PySem L2

/-- plain data: tuples, lists and dicts that no longer change by their content; vol a: the object at a, which may change -/
inductive D where
  | non | bl (b : Bool) | int (i : Int) | str (x : Str) | tup (ds : List D) | lst (ds : List D) | dic (kvs : List ((Int × Int) × Int)) | vol (a : Addr)
/-- what a changing object holds -/
inductive VC where
  | lst (ds : List D) | dic (kvs : List ((Int × Int) × Int)) | ins (C dx : Addr) (fs : List (Str × D))
abbrev Mu := Addr → Option VC
abbrev Rho := List (Option D)
def dm (m : Mu) : Addr → Prop := fun a => m a ≠ none
def pt (m : Mu) (a : Addr) (c : VC) : Mu := fun b => if b = a then some c else m b
theorem pt_same {m : Mu} {a : Addr} {c : VC} : pt m a c a = some c := by unfold pt; rw [if_pos rfl]
theorem pt_ne {m : Mu} {a b : Addr} {c : VC} (h : b ≠ a) : pt m a c b = m b := by unfold pt; rw [if_neg h]
theorem pt_pt {m : Mu} {a : Addr} {c c' : VC} : pt (pt m a c) a c' = pt m a c' := by
  funext b; unfold pt; split <;> rfl
theorem pt_self {m : Mu} {a : Addr} {c : VC} (h : m a = some c) : pt m a c = m := by
  funext b; unfold pt; split
  · rename_i e; rw [e, h]
  · rfl
theorem pt_comm {m : Mu} {a b : Addr} {c d : VC} (h : a ≠ b) : pt (pt m a c) b d = pt (pt m b d) a c := by
  funext x; unfold pt
  by_cases h1 : x = b
  · rw [if_pos h1, if_neg (fun e => h (e.symm.trans h1)), if_pos h1]
  · rw [if_neg h1, if_neg h1]
theorem dm_pt {m : Mu} {a b : Addr} {c : VC} : dm (pt m a c) b ↔ b = a ∨ dm m b := by
  unfold dm pt
  by_cases h : b = a
  · rw [if_pos h]; simp [h]
  · rw [if_neg h]; simp [h]
theorem dm_of {m : Mu} {a : Addr} {c : VC} (h : m a = some c) : dm m a := by unfold dm; rw [h]; simp
theorem dm_pt_of {m : Mu} {a : Addr} {c : VC} (h : dm m a) : dm (pt m a c) = dm m := by
  funext b
  apply propext
  rw [dm_pt]
  constructor
  · rintro (e | e)
    · rw [e]; exact h
    · exact e
  · exact .inr
theorem ne_dm {m : Mu} {a b : Addr} (h : dm m a) (h' : ¬ dm m b) : a ≠ b := fun e => h' (e ▸ h)

def kvE (p : (Int × Int) × Int) : List Key × V := ([.inl p.1.1, .inl p.1.2], .int p.2)

mutual
/-- v stands for d -/
def At (M : Addr → Prop) (H : Hp) : D → V → Prop
  | .non, v => v = .non
  | .bl b, v => v = .bl b
  | .int i, v => v = .int i
  | .str x, v => v = .str x
  | .tup ds, v => ∃ a xs, v = .ref a ∧ ¬ M a ∧ H a = some (.tup xs) ∧ AtL M H ds xs
  | .lst ds, v => ∃ a xs, v = .ref a ∧ ¬ M a ∧ H a = some (.lst xs) ∧ AtL M H ds xs
  | .dic kvs, v => ∃ a, v = .ref a ∧ ¬ M a ∧ H a = some (.dT (kvs.map kvE))
  | .vol a, v => v = .ref a
def AtL (M : Addr → Prop) (H : Hp) : List D → List V → Prop
  | [], xs => xs = []
  | d :: ds, xs => ∃ y ys, xs = y :: ys ∧ At M H d y ∧ AtL M H ds ys
end
/-- what stood and was not among the changing stands, and is not among them -/
def Ext (M : Addr → Prop) (H : Hp) (M' : Addr → Prop) (H' : Hp) : Prop := ∀ a o, H a = some o → ¬ M a → H' a = some o ∧ ¬ M' a
theorem Ext.refl (M : Addr → Prop) (H : Hp) : Ext M H M H := fun _ _ h n => ⟨h, n⟩
theorem Ext.trans {M M1 M2 : Addr → Prop} {H H1 H2 : Hp} (a : Ext M H M1 H1) (b : Ext M1 H1 M2 H2) : Ext M H M2 H2 := fun x o h n => by
  obtain ⟨h1, n1⟩ := a x o h n
  exact b x o h1 n1
mutual
theorem At.go {M M' : Addr → Prop} {H H' : Hp} (e : Ext M H M' H') : ∀ (d : D) (v : V), At M H d v → At M' H' d v
  | .non, _, h => by simpa [At] using h
  | .bl _, _, h => by simpa [At] using h
  | .int _, _, h => by simpa [At] using h
  | .str _, _, h => by simpa [At] using h
  | .vol _, _, h => by simpa [At] using h
  | .tup ds, _, h => by
    unfold At at h ⊢
    obtain ⟨a, xs, rfl, n, ha, hl⟩ := h
    obtain ⟨h1, n1⟩ := e a _ ha n
    exact ⟨a, xs, rfl, n1, h1, AtL.go e ds xs hl⟩
  | .lst ds, _, h => by
    unfold At at h ⊢
    obtain ⟨a, xs, rfl, n, ha, hl⟩ := h
    obtain ⟨h1, n1⟩ := e a _ ha n
    exact ⟨a, xs, rfl, n1, h1, AtL.go e ds xs hl⟩
  | .dic kvs, _, h => by
    unfold At at h ⊢
    obtain ⟨a, rfl, n, ha⟩ := h
    obtain ⟨h1, n1⟩ := e a _ ha n
    exact ⟨a, rfl, n1, h1⟩
theorem AtL.go {M M' : Addr → Prop} {H H' : Hp} (e : Ext M H M' H') : ∀ (ds : List D) (xs : List V), AtL M H ds xs → AtL M' H' ds xs
  | [], _, h => by simpa [AtL] using h
  | d :: ds, _, h => by
    unfold AtL at h ⊢
    obtain ⟨y, ys, rfl, h1, h2⟩ := h
    exact ⟨y, ys, rfl, At.go e d y h1, AtL.go e ds ys h2⟩
end
section
variable {M M' : Addr → Prop} {H H' : Hp}
theorem AtL.nil : AtL M H [] [] := by unfold AtL; rfl
theorem AtL.cons {d : D} {ds : List D} {v : V} {vs : List V} (h : At M H d v) (t : AtL M H ds vs) : AtL M H (d :: ds) (v :: vs) := by
  unfold AtL
  exact ⟨v, vs, rfl, h, t⟩
theorem AtL.inv {d : D} {ds : List D} {xs : List V} (h : AtL M H (d :: ds) xs) : ∃ v vs, xs = v :: vs ∧ At M H d v ∧ AtL M H ds vs := by
  unfold AtL at h
  exact h
theorem AtL.inv0 {xs : List V} (h : AtL M H [] xs) : xs = [] := by unfold AtL at h; exact h
theorem AtL.len : ∀ {ds : List D} {xs : List V}, AtL M H ds xs → xs.length = ds.length
  | [], _, h => by rw [h.inv0]; rfl
  | _ :: ds, _, h => by
    obtain ⟨v, vs, rfl, _, t⟩ := h.inv
    rw [List.length_cons, List.length_cons, t.len]
theorem AtL.get : ∀ {ds : List D} {xs : List V} {i : Nat} {d : D}, AtL M H ds xs → ds[i]? = some d → ∃ v, xs[i]? = some v ∧ At M H d v
  | [], _, _, _, _, e => by simp at e
  | d :: ds, _, 0, _, h, e => by
    obtain ⟨v, vs, rfl, h1, _⟩ := h.inv
    simp at e; subst e
    exact ⟨v, rfl, h1⟩
  | d :: ds, _, i + 1, _, h, e => by
    obtain ⟨v, vs, rfl, _, t⟩ := h.inv
    obtain ⟨w, h1, h2⟩ := AtL.get (i := i) t (by simpa using e)
    exact ⟨w, by simpa using h1, h2⟩
theorem AtL.get' : ∀ {ds : List D} {xs : List V} {i : Nat} {v : V}, AtL M H ds xs → xs[i]? = some v → ∃ d, ds[i]? = some d ∧ At M H d v
  | [], _, _, _, h, e => by rw [h.inv0] at e; simp at e
  | d :: ds, _, 0, _, h, e => by
    obtain ⟨v, vs, rfl, h1, _⟩ := h.inv
    simp at e; subst e
    exact ⟨d, rfl, h1⟩
  | d :: ds, _, i + 1, _, h, e => by
    obtain ⟨v, vs, rfl, _, t⟩ := h.inv
    obtain ⟨w, h1, h2⟩ := AtL.get' (i := i) t (by simpa using e)
    exact ⟨w, by simpa using h1, h2⟩
theorem AtL.append : ∀ {ds es : List D} {xs ys : List V}, AtL M H ds xs → AtL M H es ys → AtL M H (ds ++ es) (xs ++ ys)
  | [], _, _, _, h, t => by rw [h.inv0]; exact t
  | d :: ds, _, _, _, h, t => by
    obtain ⟨v, vs, rfl, h1, h2⟩ := h.inv
    exact .cons h1 (h2.append t)
theorem AtL.of_get : ∀ {ds : List D} {xs : List V}, xs.length = ds.length → (∀ (i : Nat) (d : D) (v : V), ds[i]? = some d → xs[i]? = some v → At M H d v) → AtL M H ds xs
  | [], [], _, _ => .nil
  | [], _ :: _, h, _ => by simp at h
  | _ :: _, [], h, _ => by simp at h
  | d :: ds, x :: xs, h, f => .cons (f 0 d x rfl rfl) (AtL.of_get (by simpa using h) fun i e v h1 h2 => f (i + 1) e v (by simpa using h1) (by simpa using h2))
theorem AtL.set {ds : List D} {xs : List V} (h : AtL M H ds xs) {d : D} {v : V} (hd : At M H d v) (j : Nat) : AtL M H (ds.set j d) (xs.set j v) := by
  refine AtL.of_get (by rw [List.length_set, List.length_set, h.len]) fun i e w h1 h2 => ?_
  by_cases hij : j = i
  · subst hij
    by_cases hl : j < ds.length
    · rw [List.getElem?_set_self hl] at h1
      rw [List.getElem?_set_self (by rw [h.len]; exact hl)] at h2
      cases h1; cases h2; exact hd
    · rw [List.getElem?_eq_none (by simpa using hl)] at h1; cases h1
  · rw [List.getElem?_set_ne hij] at h1 h2
    obtain ⟨w', h3, h4⟩ := h.get h1
    rw [h2] at h3; cases h3; exact h4
theorem AtL.drop {ds : List D} {xs : List V} (h : AtL M H ds xs) (n : Nat) : AtL M H (ds.drop n) (xs.drop n) := by
  refine AtL.of_get (by rw [List.length_drop, List.length_drop, h.len]) fun i e w h1 h2 => ?_
  rw [List.getElem?_drop] at h1 h2
  obtain ⟨w', h3, h4⟩ := h.get h1
  rw [h2] at h3; cases h3; exact h4
theorem AtL.take {ds : List D} {xs : List V} (h : AtL M H ds xs) (n : Nat) : AtL M H (ds.take n) (xs.take n) := by
  refine AtL.of_get (by rw [List.length_take, List.length_take, h.len]) fun i e w h1 h2 => ?_
  by_cases hi : i < n
  · rw [List.getElem?_take_of_lt hi] at h1 h2
    obtain ⟨w', h3, h4⟩ := h.get h1
    rw [h2] at h3; cases h3; exact h4
  · rw [List.getElem?_eq_none (by rw [List.length_take]; omega)] at h1; cases h1
theorem AtL.reverse : ∀ {ds : List D} {xs : List V}, AtL M H ds xs → AtL M H ds.reverse xs.reverse
  | [], _, h => by rw [h.inv0]; exact .nil
  | d :: ds, _, h => by
    obtain ⟨v, vs, rfl, h1, h2⟩ := h.inv
    rw [List.reverse_cons, List.reverse_cons]
    exact h2.reverse.append (.cons h1 .nil)
theorem AtL.eraseIdx {ds : List D} {xs : List V} (h : AtL M H ds xs) (n : Nat) : AtL M H (ds.eraseIdx n) (xs.eraseIdx n) := by
  rw [List.eraseIdx_eq_take_drop_succ, List.eraseIdx_eq_take_drop_succ]
  exact (h.take n).append (h.drop (n + 1))
theorem AtL.dropLast {ds : List D} {xs : List V} (h : AtL M H ds xs) : AtL M H ds.dropLast xs.dropLast := by
  rw [List.dropLast_eq_take, List.dropLast_eq_take, h.len]
  exact h.take _
end

def VAt (M : Addr → Prop) (H : Hp) (a : Addr) : VC → Prop
  | .lst ds => ∃ xs, H a = some (.lst xs) ∧ AtL M H ds xs
  | .dic kvs => H a = some (.dT (kvs.map kvE))
  | .ins C dx fs => ∃ gs, H a = some (.ins C dx gs) ∧ gs.map (·.1) = fs.map (·.1) ∧ AtL M H (fs.map (·.2)) (gs.map (·.2))
/-- the changing ones, and the hidden ones z, each with what it holds -/
abbrev Zs := Addr → Option (List V)
def mm (z : Zs) (m : Mu) : Addr → Prop := fun a => dm m a ∨ z a ≠ none
theorem VAt.isS {M : Addr → Prop} {H : Hp} {a : Addr} {c : VC} (h : VAt M H a c) : H a ≠ none := by
  cases c with
  | lst ds => obtain ⟨xs, e, _⟩ := h; rw [e]; simp
  | dic kvs => rw [show H a = _ from h]; simp
  | ins C dx fs => obtain ⟨gs, e, _⟩ := h; rw [e]; simp
theorem VAt.go {M M' : Addr → Prop} {H H' : Hp} {a : Addr} {c : VC} (e : Ext M H M' H') (k : ∀ o, H a = some o → H' a = some o) (h : VAt M H a c) : VAt M' H' a c := by
  cases c with
  | lst ds => obtain ⟨xs, e1, hl⟩ := h; exact ⟨xs, k _ e1, hl.go e⟩
  | dic kvs => exact k _ h
  | ins C dx fs => obtain ⟨gs, e1, hn, hl⟩ := h; exact ⟨gs, k _ e1, hn, hl.go e⟩
structure Vol (z : Zs) (m : Mu) (H : Hp) : Prop where
  at_ : ∀ a c, m a = some c → VAt (mm z m) H a c
  hid : ∀ a o, z a = some o → H a = some (.lst o) ∧ m a = none
section
variable {z : Zs} {m m1 m2 m' : Mu} {H H1 H2 H' : Hp} {p : Addr} {o : HO} {c : VC}
theorem mm_pt {a b : Addr} : mm z (pt m a c) b ↔ b = a ∨ mm z m b := by
  unfold mm
  rw [dm_pt, or_assoc]
theorem mm_pt_of {a : Addr} (h : dm m a) : mm z (pt m a c) = mm z m := by
  unfold mm
  rw [dm_pt_of h]
theorem Vol.fresh (h : Vol z m H) (hp : H p = none) : ¬ mm z m p := fun hd => by
  rcases hd with hd | hd
  · cases e : m p with
    | none => exact hd e
    | some c => exact (VAt.isS (h.at_ p c e)) hp
  · cases e : z p with
    | none => exact hd e
    | some o => rw [(h.hid p o e).1] at hp; cases hp
theorem Vol.freshM (h : Vol z m H) (hp : H p = none) : ¬ dm m p := fun q => h.fresh hp (.inl q)
theorem Vol.tup (h : Vol z m H) {xs : List V} (hp : H p = some (.tup xs)) : ¬ mm z m p := fun hd => by
  rcases hd with hd | hd
  · cases e : m p with
    | none => exact hd e
    | some c =>
      have q := h.at_ p c e
      cases c with
      | lst ds => obtain ⟨_, e1, _⟩ := q; rw [hp] at e1; cases e1
      | dic kvs => have e1 : H p = _ := q; rw [hp] at e1; cases e1
      | ins C dx fs => obtain ⟨_, e1, _⟩ := q; rw [hp] at e1; cases e1
  · cases e : z p with
    | none => exact hd e
    | some o => rw [(h.hid p o e).1] at hp; cases hp
theorem Vol.nz (h : Vol z m H) (hp : dm m p) : z p = none := by
  cases e : z p with
  | none => rfl
  | some o => exact absurd (h.hid p o e).2 hp
theorem Vol.some (h : Vol z m H) (hp : dm m p) : H p ≠ none := fun e => h.freshM e hp

/-- a step: from the store m over H to m' over H' -/
structure Stp (z : Zs) (m : Mu) (H : Hp) (m' : Mu) (H' : Hp) : Prop where
  ext : Ext (mm z m) H (mm z m') H'
  sub : ∀ a, dm m a → dm m' a
  vol : Vol z m' H'
theorem Stp.refl (h : Vol z m H) : Stp z m H m H := ⟨.refl _ _, fun _ x => x, h⟩
theorem Stp.trans (a : Stp z m H m1 H1) (b : Stp z m1 H1 m2 H2) : Stp z m H m2 H2 := ⟨a.ext.trans b.ext, fun x h => b.sub x (a.sub x h), b.vol⟩
/-- all that stood stands -/
theorem Stp.ex (v : Vol z m H) (k : ∀ a o, H a = some o → H' a = some o) : Stp z m H m H' :=
  ⟨fun a o h n => ⟨k a o h, n⟩, fun _ x => x, fun a c h => VAt.go (fun a o h n => ⟨k a o h, n⟩) (fun o h => k a o h) (v.at_ a c h), fun a o h => ⟨k a _ (v.hid a o h).1, (v.hid a o h).2⟩⟩
theorem Stp.new (v : Vol z m H) (hp : H p = none) : Stp z m H m (upd H p o) :=
  .ex v fun a u h => by rw [upd_ne (ne_of_none h hp)]; exact h
theorem ext_new (v : Vol z m H) (hp : H p = none) : Ext (mm z m) H (mm z (pt m p c)) (upd H p o) := fun a u h n => by
  have ne := ne_of_none h hp
  refine ⟨by rw [upd_ne ne]; exact h, fun hd => ?_⟩
  rcases mm_pt.mp hd with q | q
  · exact ne q
  · exact n q
/-- a new object that may change -/
theorem Stp.newVol (v : Vol z m H) (hp : H p = none) (hc : VAt (mm z (pt m p c)) (upd H p o) p c) : Stp z m H (pt m p c) (upd H p o) := by
  refine ⟨ext_new v hp, fun a h => dm_pt.mpr (.inr h), fun a c' h => ?_, fun a u h => ?_⟩
  · by_cases ha : a = p
    · subst ha
      rw [pt_same] at h; cases h; exact hc
    · rw [pt_ne ha] at h
      exact VAt.go (ext_new v hp) (fun o h => by rw [upd_ne (ne_of_none h hp)]; exact h) (v.at_ a c' h)
  · obtain ⟨h1, h2⟩ := v.hid a u h
    have ne := ne_of_none h1 hp
    exact ⟨by rw [upd_ne ne]; exact h1, by rw [pt_ne ne]; exact h2⟩
/-- an object of the store is changed -/
theorem Stp.put (v : Vol z m H) (hp : dm m p) (hc : Ext (mm z m) H (mm z m) (upd H p o) → VAt (mm z m) (upd H p o) p c) : Stp z m H (pt m p c) (upd H p o) := by
  have e : Ext (mm z m) H (mm z m) (upd H p o) := fun a u h n => by
    have ne : a ≠ p := fun q => n (q ▸ .inl hp)
    exact ⟨by rw [upd_ne ne]; exact h, n⟩
  have ed : mm z (pt m p c) = mm z m := mm_pt_of hp
  refine ⟨by rw [ed]; exact e, fun a h => by rw [dm_pt_of hp]; exact h, fun a c' h => ?_, fun a u h => ?_⟩
  · rw [ed]
    by_cases ha : a = p
    · subst ha
      rw [pt_same] at h; cases h; exact hc e
    · rw [pt_ne ha] at h
      exact VAt.go e (fun o h => by rw [upd_ne ha]; exact h) (v.at_ a c' h)
  · obtain ⟨h1, h2⟩ := v.hid a u h
    have ne : a ≠ p := fun q => hp (q ▸ h2)
    exact ⟨by rw [upd_ne ne]; exact h1, by rw [pt_ne ne]; exact h2⟩
end

/-! ### the slots -/
def EnvR (M : Addr → Prop) (H : Hp) : Rho → L2.St → Prop
  | [], σ => σ = []
  | none :: r, σ => ∃ o t, σ = o :: t ∧ EnvR M H r t
  | some d :: r, σ => ∃ v t, σ = some v :: t ∧ At M H d v ∧ EnvR M H r t
theorem EnvR.go {M M' : Addr → Prop} {H H' : Hp} (e : Ext M H M' H') : ∀ {r : Rho} {σ : L2.St}, EnvR M H r σ → EnvR M' H' r σ
  | [], _, h => h
  | none :: r, _, h => by obtain ⟨o, t, e1, h⟩ := h; exact ⟨o, t, e1, h.go e⟩
  | some d :: r, _, h => by obtain ⟨v, t, e1, h1, h⟩ := h; exact ⟨v, t, e1, At.go e _ _ h1, h.go e⟩
section
variable {M : Addr → Prop} {H : Hp}
theorem EnvR.get : ∀ {r : Rho} {σ : L2.St} {i : Nat} {d : D}, EnvR M H r σ → r[i]? = some (some d) → ∃ v, σ[i]? = some (some v) ∧ At M H d v
  | [], _, _, _, _, e => by simp at e
  | none :: r, _, 0, _, _, e => by simp at e
  | some d :: r, _, 0, _, h, e => by
    obtain ⟨v, t, rfl, h1, h⟩ := h
    simp at e; subst e
    exact ⟨v, rfl, h1⟩
  | none :: r, _, i + 1, d, h, e => by
    obtain ⟨o, t, rfl, h⟩ := h
    obtain ⟨v, h1, h2⟩ := EnvR.get (i := i) h (by simpa using e)
    exact ⟨v, by simpa using h1, h2⟩
  | some _ :: r, _, i + 1, d, h, e => by
    obtain ⟨o, t, rfl, _, h⟩ := h
    obtain ⟨v, h1, h2⟩ := EnvR.get (i := i) h (by simpa using e)
    exact ⟨v, by simpa using h1, h2⟩
theorem EnvR.set : ∀ {r : Rho} {σ : L2.St} (i : Nat) {d : D} {v : V}, EnvR M H r σ → At M H d v → EnvR M H (r.set i (some d)) (σ.set i (some v))
  | [], _, _, _, _, h, _ => by rw [show _ = [] from h]; exact rfl
  | none :: r, _, 0, _, v, h, hd => by obtain ⟨o, t, rfl, h⟩ := h; exact ⟨v, t, rfl, hd, h⟩
  | some _ :: r, _, 0, _, v, h, hd => by obtain ⟨o, t, rfl, _, h⟩ := h; exact ⟨v, t, rfl, hd, h⟩
  | none :: r, _, i + 1, _, v, h, hd => by obtain ⟨o, t, rfl, h⟩ := h; exact ⟨o, _, rfl, h.set i hd⟩
  | some _ :: r, _, i + 1, _, v, h, hd => by obtain ⟨o, t, rfl, h1, h⟩ := h; exact ⟨o, _, rfl, h1, h.set i hd⟩
theorem EnvR.off : ∀ {r : Rho} {σ : L2.St} (i : Nat) (o : Option V), EnvR M H r σ → EnvR M H (r.set i none) (σ.set i o)
  | [], _, _, _, h => by rw [show _ = [] from h]; exact rfl
  | none :: r, _, 0, o, h => by obtain ⟨_, t, rfl, h⟩ := h; exact ⟨o, t, rfl, h⟩
  | some _ :: r, _, 0, o, h => by obtain ⟨_, t, rfl, _, h⟩ := h; exact ⟨o, t, rfl, h⟩
  | none :: r, _, i + 1, o, h => by obtain ⟨u, t, rfl, h⟩ := h; exact ⟨u, _, rfl, h.off i o⟩
  | some _ :: r, _, i + 1, o, h => by obtain ⟨u, t, rfl, h1, h⟩ := h; exact ⟨u, _, rfl, h1, h.off i o⟩
theorem EnvR.forget : ∀ {r : Rho} {σ : L2.St}, EnvR M H r σ → ∀ i : Nat, EnvR M H (r.set i none) σ
  | [], _, h, _ => h
  | none :: r, _, h, 0 => h
  | some _ :: r, _, h, 0 => by obtain ⟨v, t, rfl, _, h⟩ := h; exact ⟨some v, t, rfl, h⟩
  | none :: r, _, h, i + 1 => by obtain ⟨u, t, rfl, h⟩ := h; exact ⟨u, _, rfl, h.forget i⟩
  | some _ :: r, _, h, i + 1 => by obtain ⟨u, t, rfl, h1, h⟩ := h; exact ⟨u, _, rfl, h1, h.forget i⟩
end
def wipeR (r : Rho) : List Nat → Rho
  | [] => r
  | v :: vs => (wipeR r vs).set v none
theorem EnvR.wipe {M : Addr → Prop} {H : Hp} {r : Rho} {σ : L2.St} (h : EnvR M H r σ) : ∀ vs : List Nat, EnvR M H (wipeR r vs) (L2.wipe σ vs)
  | [] => h
  | v :: vs => (h.wipe vs).off v none
theorem start_env {M : Addr → Prop} {H : Hp} : ∀ {ds : List D} {vs : List V} (n : Nat), AtL M H ds vs → EnvR M H (ds.map some ++ List.replicate n none) (vs.map some ++ List.replicate n none)
  | [], _, n, h => by
    rw [h.inv0]
    show EnvR M H (List.replicate n none) (List.replicate n none)
    induction n with
    | zero => exact rfl
    | succ n ih => exact ⟨none, List.replicate n none, rfl, ih⟩
  | d :: ds, _, n, h => by
    obtain ⟨v, vs, rfl, h1, h2⟩ := h.inv
    exact ⟨v, _, rfl, h1, start_env n h2⟩

/-! ### what a reading gives -/
abbrev RR := D → Mu → Prop
def Res (z : Zs) (m : Mu) (H : Hp) (R : RR) (Q : VK) : Prop := ∀ v H2 d m', Stp z m H m' H2 → At (mm z m') H2 d v → R d m' → Q v H2
def Ev (r : Rho) (m : Mu) (te : TE) (R : RR) : Prop := ∀ z σ H, EnvR (mm z m) H r σ → Vol z m H → ∀ Q : VK, Res z m H R Q → te σ H Q
def EvT (r : Rho) (m : Mu) (tt : TT) (R : Bool → Mu → Prop) : Prop := ∀ z σ H, EnvR (mm z m) H r σ → Vol z m H → ∀ Q : Bool → Hp → Prop, (∀ b H2 m', Stp z m H m' H2 → R b m' → Q b H2) → tt σ H Q
def EvA (r : Rho) (m : Mu) (ta : TA) (R : List D → Mu → Prop) : Prop := ∀ z σ H, EnvR (mm z m) H r σ → Vol z m H → ∀ Q : List V → Hp → Prop, (∀ vs H2 ds m', Stp z m H m' H2 → AtL (mm z m') H2 ds vs → R ds m' → Q vs H2) → ta σ H Q
def Op (o : R2) (m : Mu) (d1 d2 : D) (R : RR) : Prop := ∀ z H x y, Vol z m H → At (mm z m) H d1 x → At (mm z m) H d2 y → ∀ Q, Res z m H R Q → o x y H Q
def Op1 (o : V → Hp → VK → Prop) (m : Mu) (d : D) (R : RR) : Prop := ∀ z H x, Vol z m H → At (mm z m) H d x → ∀ Q, Res z m H R Q → o x H Q
def OpL (o : List V → Hp → VK → Prop) (m : Mu) (ds : List D) (R : RR) : Prop := ∀ z H vs, Vol z m H → AtL (mm z m) H ds vs → ∀ Q, Res z m H R Q → o vs H Q
/-- just this, and nothing changed -/
def Is (d : D) (m : Mu) : RR := fun d' m' => d' = d ∧ m' = m
def IsB (b : Bool) (m : Mu) : Bool → Mu → Prop := fun b' m' => b' = b ∧ m' = m
def IsL (ds : List D) (m : Mu) : List D → Mu → Prop := fun d' m' => d' = ds ∧ m' = m
abbrev Ev1 (r : Rho) (m : Mu) (te : TE) (d : D) : Prop := Ev r m te (Is d m)
abbrev EvT1 (r : Rho) (m : Mu) (te : TT) (b : Bool) : Prop := EvT r m te (IsB b m)
abbrev EvA1 (r : Rho) (m : Mu) (te : TA) (ds : List D) : Prop := EvA r m te (IsL ds m)
theorem Res.from {z : Zs} {m m1 : Mu} {H H1 : Hp} {R : RR} {Q : VK} (q : Res z m H R Q) (s : Stp z m H m1 H1) : Res z m1 H1 R Q := fun v H2 d m' st h hr => q v H2 d m' (s.trans st) h hr
theorem Res.here {z : Zs} {m : Mu} {H : Hp} {d : D} {Q : VK} {v : V} (q : Res z m H (Is d m) Q) (hv : Vol z m H) (h : At (mm z m) H d v) : Q v H := q v H d m (.refl hv) h ⟨rfl, rfl⟩
theorem Res.hereR {z : Zs} {m : Mu} {H : Hp} {d : D} {R : RR} {Q : VK} {v : V} (q : Res z m H R Q) (hv : Vol z m H) (h : At (mm z m) H d v) (hr : R d m) : Q v H := q v H d m (.refl hv) h hr

section
variable {r : Rho} {m : Mu} {ta tb tc te : TE} {d d1 d2 d3 : D} {R R' : RR}
theorem ev_mono (h : Ev r m te R) (k : ∀ d m', R d m' → R' d m') : Ev r m te R' := fun z σ H e v Q q => h z σ H e v Q fun x H2 d m' s a z => q x H2 d m' s a (k d m' z)
theorem ev_to (h : Ev1 r m te d) (e : d = d1) : Ev1 r m te d1 := e ▸ h
theorem evt_mono {tt : TT} {R R' : Bool → Mu → Prop} (h : EvT r m tt R) (k : ∀ d m', R d m' → R' d m') : EvT r m tt R' := fun z σ H e v Q q => h z σ H e v Q fun b H2 m' s z => q b H2 m' s (k b m' z)
theorem evt_to {tt : TT} {b c : Bool} (h : EvT1 r m tt b) (e : b = c) : EvT1 r m tt c := e ▸ h
theorem eva_mono {ta : TA} {R R' : List D → Mu → Prop} (h : EvA r m ta R) (k : ∀ d m', R d m' → R' d m') : EvA r m ta R' := fun z σ H e v Q q => h z σ H e v Q fun x H2 ds m' s a z => q x H2 ds m' s a (k ds m' z)
theorem ev_var {i : Nat} (h : r[i]? = some (some d)) : Ev1 r m (tVar i) d := fun z σ H e v Q q => by
  obtain ⟨x, h1, h2⟩ := e.get h
  exact ⟨x, h1, q.here v h2⟩
theorem ev_int {i : Int} : Ev1 r m (tC (.int i)) (.int i) := fun z σ H e v Q q => q.here v (by unfold At; rfl)
theorem ev_bl {b : Bool} : Ev1 r m (tC (.bl b)) (.bl b) := fun z σ H e v Q q => q.here v (by unfold At; rfl)
theorem ev_str {x : Str} : Ev1 r m (tC (.str x)) (.str x) := fun z σ H e v Q q => q.here v (by unfold At; rfl)
theorem ev_non : Ev1 r m (tC .non) .non := fun z σ H e v Q q => q.here v (by unfold At; rfl)
/-! arguments -/
theorem eva_nil : EvA1 r m tNil [] := fun z σ H e v Q q => q [] H [] m (.refl v) .nil ⟨rfl, rfl⟩
theorem eva_cons {tr : TA} {R1 : RR} {R2 : List D → Mu → Prop} (h : Ev r m te R1) (t : ∀ d m1, R1 d m1 → EvA r m1 tr fun ds m2 => R2 (d :: ds) m2) : EvA r m (tCons te tr) R2 := fun z σ H e v Q q =>
  h z σ H e v _ fun x H1 d m1 s1 a1 z1 => t d m1 z1 z σ H1 (e.go s1.ext) s1.vol _ fun xs H2 ds m2 s2 a2 z2 => q (x :: xs) H2 (d :: ds) m2 (s1.trans s2) (.cons (At.go s2.ext _ _ a1) a2) z2
theorem eva_cons1 {tr : TA} {ds : List D} (h : Ev1 r m te d) (t : EvA1 r m tr ds) : EvA1 r m (tCons te tr) (d :: ds) :=
  eva_cons h fun d' m1 z => by obtain ⟨rfl, rfl⟩ := z; exact eva_mono t fun ds' m2 z => by obtain ⟨rfl, rfl⟩ := z; exact ⟨rfl, rfl⟩
/-! operators, built-ins -/
theorem ev_op {o : R2} {R1 : RR} {R2 : D → RR} (ha : Ev r m ta R1) (hb : ∀ d1 m1, R1 d1 m1 → Ev r m1 tb (R2 d1)) (ho : ∀ d1 m1 d2 m2, R1 d1 m1 → R2 d1 d2 m2 → Op o m2 d1 d2 R) : Ev r m (tOp o ta tb) R := fun z σ H e v Q q =>
  ha z σ H e v _ fun x H1 d1 m1 s1 a1 z1 => hb d1 m1 z1 z σ H1 (e.go s1.ext) s1.vol _ fun y H2 d2 m2 s2 a2 z2 => ho d1 m1 d2 m2 z1 z2 z H2 x y s2.vol (At.go s2.ext _ _ a1) a2 Q (q.from (s1.trans s2))
theorem ev_opR {o : R2} (ha : Ev1 r m ta d1) (hb : Ev1 r m tb d2) (ho : Op o m d1 d2 R) : Ev r m (tOp o ta tb) R :=
  ev_op (R2 := fun _ => Is d2 m) ha (fun d' m' z => by obtain ⟨rfl, rfl⟩ := z; exact hb) fun a b c d z1 z2 => by obtain ⟨rfl, rfl⟩ := z1; obtain ⟨rfl, rfl⟩ := z2; exact ho
theorem ev_op1 {o : R2} (ha : Ev1 r m ta d1) (hb : Ev1 r m tb d2) (ho : Op o m d1 d2 (Is d m)) : Ev1 r m (tOp o ta tb) d := ev_opR ha hb ho
theorem ev_un {o : V → Hp → VK → Prop} (ha : Ev1 r m ta d1) (ho : Op1 o m d1 R) : Ev r m (tUn o ta) R := fun z σ H e v Q q =>
  ha z σ H e v _ fun x H1 d' m1 s1 a1 z1 => by obtain ⟨rfl, rfl⟩ := z1; exact ho z H1 x s1.vol a1 Q (q.from s1)
theorem ev_cb {o : List V → Hp → VK → Prop} {tl : TA} {R1 : List D → Mu → Prop} (ha : EvA r m tl R1) (ho : ∀ ds m1, R1 ds m1 → OpL o m1 ds R) : Ev r m (tCB o tl) R := fun z σ H e v Q q =>
  ha z σ H e v _ fun xs H1 ds m1 s1 a1 z1 => ho ds m1 z1 z H1 xs s1.vol a1 Q (q.from s1)
theorem ev_cb1 {o : List V → Hp → VK → Prop} {tl : TA} {ds : List D} (ha : EvA1 r m tl ds) (ho : OpL o m ds R) : Ev r m (tCB o tl) R := ev_cb ha fun d' m' z => by obtain ⟨rfl, rfl⟩ := z; exact ho
/-! displays -/
theorem ev_tup {tl : TA} {R1 : List D → Mu → Prop} (h : EvA r m tl R1) (hl : ∀ ds m1, R1 ds m1 → ds.length ≤ sizeLine ∧ R (.tup ds) m1) : Ev r m (tTup tl) R := fun z σ H e v Q q =>
  h z σ H e v _ fun xs H1 ds m1 s1 a1 z1 => ⟨by rw [a1.len]; exact (hl ds m1 z1).1, fun p hp => by
    have s2 : Stp z m1 H1 m1 (upd H1 p (.tup xs)) := .new s1.vol hp
    exact q _ _ (.tup ds) m1 (s1.trans s2) (by unfold At; exact ⟨p, xs, rfl, s1.vol.fresh hp, upd_same, a1.go s2.ext⟩) (hl ds m1 z1).2⟩
theorem ev_tup1 {tl : TA} {ds : List D} (h : EvA1 r m tl ds) (hl : ds.length ≤ 1000 := by first | decide | simp) : Ev1 r m (tTup tl) (.tup ds) :=
  ev_tup h fun d' m' z => by obtain ⟨rfl, rfl⟩ := z; exact ⟨Nat.le_trans hl (by decide), rfl, rfl⟩
/-- a list that is not changed further -/
theorem ev_lst {tl : TA} {R1 : List D → Mu → Prop} (h : EvA r m tl R1) (hl : ∀ ds m1, R1 ds m1 → ds.length ≤ sizeLine ∧ R (.lst ds) m1) : Ev r m (tLst tl) R := fun z σ H e v Q q =>
  h z σ H e v _ fun xs H1 ds m1 s1 a1 z1 => ⟨by rw [a1.len]; exact (hl ds m1 z1).1, fun p hp => by
    have s2 : Stp z m1 H1 m1 (upd H1 p (.lst xs)) := .new s1.vol hp
    exact q _ _ (.lst ds) m1 (s1.trans s2) (by unfold At; exact ⟨p, xs, rfl, s1.vol.fresh hp, upd_same, a1.go s2.ext⟩) (hl ds m1 z1).2⟩
theorem ev_lst1 {tl : TA} {ds : List D} (h : EvA1 r m tl ds) (hl : ds.length ≤ 1000 := by first | decide | simp) : Ev1 r m (tLst tl) (.lst ds) :=
  ev_lst h fun d' m' z => by obtain ⟨rfl, rfl⟩ := z; exact ⟨Nat.le_trans hl (by decide), rfl, rfl⟩
/-- a new object of the store -/
def NewV (c : VC) (m : Mu) : RR := fun d m' => ∃ l, d = .vol l ∧ ¬ dm m l ∧ m' = pt m l c
theorem Res.newL {z : Zs} {H H1 : Hp} {ds : List D} {Q : VK} {xs : List V} {p : Addr} (q : Res z m H (NewV (.lst ds) m) Q) (s1 : Stp z m H m H1) (hp : H1 p = none) (a : AtL (mm z m) H1 ds xs) : Q (.ref p) (upd H1 p (.lst xs)) := by
  have s2 : Stp z m H1 (pt m p (.lst ds)) (upd H1 p (.lst xs)) := .newVol s1.vol hp ⟨xs, upd_same, a.go (ext_new s1.vol hp)⟩
  exact q _ _ (.vol p) _ (s1.trans s2) (by unfold At; rfl) ⟨p, rfl, s1.vol.freshM hp, rfl⟩
theorem ev_lstV {tl : TA} {ds : List D} (h : EvA1 r m tl ds) (hl : ds.length ≤ 1000 := by first | decide | simp) : Ev r m (tLst tl) (NewV (.lst ds) m) := fun z σ H e v Q q =>
  h z σ H e v _ fun xs H1 ds' m1 s1 a1 z1 => by
    obtain ⟨rfl, rfl⟩ := z1
    exact ⟨by rw [a1.len]; exact Nat.le_trans hl (by decide), fun p hp => Res.newL q s1 hp a1⟩
/-! tests -/
theorem evt_test {R : Bool → Mu → Prop} (h : Ev r m te fun d m' => ∃ b, d = .bl b ∧ R b m') : EvT r m (tTest te) R := fun z σ H e v Q q =>
  h z σ H e v _ fun x H1 d m1 s1 a1 z1 => by
    obtain ⟨b, rfl, z⟩ := z1
    unfold At at a1
    exact ⟨b, a1, q b H1 m1 s1 z⟩
theorem evt_test1 {b : Bool} (h : Ev1 r m te (.bl b)) : EvT1 r m (tTest te) b := evt_test (ev_mono h fun d m' z => ⟨b, z.1, rfl, z.2⟩)
theorem evt_B {R : Bool → Mu → Prop} (h : Ev r m te fun d m' => ∃ b, d = .bl b ∧ R b m') : EvT r m (tB te) R := fun z σ H e v Q q =>
  h z σ H e v _ fun x H1 d m1 s1 a1 z1 => by
    obtain ⟨b, rfl, z⟩ := z1
    unfold At at a1
    exact ⟨b, a1, q b H1 m1 s1 z⟩
theorem evt_B1 {b : Bool} (h : Ev1 r m te (.bl b)) : EvT1 r m (tB te) b := evt_B (ev_mono h fun d m' z => ⟨b, z.1, rfl, z.2⟩)
variable {t u : TT}
theorem evt_and {R1 R : Bool → Mu → Prop} (h1 : EvT r m t R1) (h2 : ∀ m1, R1 true m1 → EvT r m1 u R) (h3 : ∀ m1, R1 false m1 → R false m1) : EvT r m (tAnd t u) R := fun z σ H e v Q q =>
  h1 z σ H e v _ fun b H1 m1 s1 z1 => by
    cases b with
    | true => exact iteT (h2 m1 z1 z σ H1 (e.go s1.ext) s1.vol Q fun b H2 m2 s2 z2 => q b H2 m2 (s1.trans s2) z2)
    | false => exact iteF (q false H1 m1 s1 (h3 m1 z1))
theorem evt_and1 {a b : Bool} (h1 : EvT1 r m t a) (h2 : a = true → EvT1 r m u b) : EvT1 r m (tAnd t u) (a && b) :=
  evt_and h1 (fun m1 z => by obtain ⟨e, rfl⟩ := z; subst e; exact evt_mono (h2 rfl) fun b' m' z => ⟨z.1, z.2⟩) fun m1 z => by obtain ⟨e, rfl⟩ := z; subst e; exact ⟨rfl, rfl⟩
theorem evt_or {R1 R : Bool → Mu → Prop} (h1 : EvT r m t R1) (h2 : ∀ m1, R1 false m1 → EvT r m1 u R) (h3 : ∀ m1, R1 true m1 → R true m1) : EvT r m (tOr t u) R := fun z σ H e v Q q =>
  h1 z σ H e v _ fun b H1 m1 s1 z1 => by
    cases b with
    | true => exact iteT (q true H1 m1 s1 (h3 m1 z1))
    | false => exact iteF (h2 m1 z1 z σ H1 (e.go s1.ext) s1.vol Q fun b H2 m2 s2 z2 => q b H2 m2 (s1.trans s2) z2)
theorem evt_or1 {a b : Bool} (h1 : EvT1 r m t a) (h2 : a = false → EvT1 r m u b) : EvT1 r m (tOr t u) (a || b) :=
  evt_or h1 (fun m1 z => by obtain ⟨e, rfl⟩ := z; subst e; exact evt_mono (h2 rfl) fun b' m' z => ⟨z.1, z.2⟩) fun m1 z => by obtain ⟨e, rfl⟩ := z; subst e; exact ⟨rfl, rfl⟩
theorem evt_not {R : Bool → Mu → Prop} (h : EvT r m t fun b m' => R (!b) m') : EvT r m (tNot t) R := fun z σ H e v Q q => h z σ H e v _ fun b H1 m1 s1 z1 => q _ H1 m1 s1 z1
theorem evt_not1 {a : Bool} (h : EvT1 r m t a) : EvT1 r m (tNot t) (!a) := evt_not (evt_mono h fun b m' z => ⟨by rw [z.1], z.2⟩)
theorem ev_andV {R1 R : RR} (h1 : Ev r m ta R1) (hb : ∀ d m1, R1 d m1 → ∃ b, d = .bl b) (h2 : ∀ m1, R1 (.bl true) m1 → Ev r m1 tb R) (h3 : ∀ m1, R1 (.bl false) m1 → R (.bl false) m1) : Ev r m (tAndV ta tb) R := fun z σ H e v Q q =>
  h1 z σ H e v _ fun x H1 d m1 s1 a1 z1 => by
    obtain ⟨b, rfl⟩ := hb d m1 z1
    have ex : x = .bl b := by unfold At at a1; exact a1
    cases b with
    | true => exact ⟨true, ex, iteT (h2 m1 z1 z σ H1 (e.go s1.ext) s1.vol Q (q.from s1))⟩
    | false => exact ⟨false, ex, iteF (q _ H1 (.bl false) m1 s1 (by unfold At; rfl) (h3 m1 z1))⟩
theorem ev_andV1 {a b : Bool} (h1 : Ev1 r m ta (.bl a)) (h2 : a = true → Ev1 r m tb (.bl b)) : Ev1 r m (tAndV ta tb) (.bl (a && b)) :=
  ev_andV h1 (fun d m' z => ⟨a, z.1⟩) (fun m1 z => by obtain ⟨e, rfl⟩ := z; cases e; exact ev_mono (h2 rfl) fun d m' z => ⟨z.1, z.2⟩) fun m1 z => by obtain ⟨e, rfl⟩ := z; cases e; exact ⟨rfl, rfl⟩
theorem ev_notV1 {a : Bool} (h1 : Ev1 r m ta (.bl a)) : Ev1 r m (tNotV ta) (.bl (!a)) := fun z σ H e v Q q =>
  h1 z σ H e v _ fun x H1 d m1 s1 a1 z1 => by
    obtain ⟨rfl, rfl⟩ := z1
    have ex : x = .bl a := by unfold At at a1; exact a1
    exact ⟨a, ex, q _ H1 (.bl (!a)) _ s1 (by unfold At; rfl) ⟨rfl, rfl⟩⟩
theorem ev_if {R1 : Bool → Mu → Prop} (h : EvT r m t R1) (h1 : ∀ m1, R1 true m1 → Ev r m1 ta R) (h2 : ∀ m1, R1 false m1 → Ev r m1 tb R) : Ev r m (tIf t ta tb) R := fun z σ H e v Q q =>
  h z σ H e v _ fun b H1 m1 s1 z1 => by
    cases b with
    | true => exact iteT (h1 m1 z1 z σ H1 (e.go s1.ext) s1.vol Q (q.from s1))
    | false => exact iteF (h2 m1 z1 z σ H1 (e.go s1.ext) s1.vol Q (q.from s1))
theorem ev_ifR {b : Bool} (h : EvT1 r m t b) (h1 : b = true → Ev r m ta R) (h2 : b = false → Ev r m tb R) : Ev r m (tIf t ta tb) R :=
  ev_if h (fun m1 z => by obtain ⟨e, rfl⟩ := z; exact h1 e.symm) fun m1 z => by obtain ⟨e, rfl⟩ := z; exact h2 e.symm
theorem ev_if1 {b : Bool} (h : EvT1 r m t b) (h1 : b = true → Ev1 r m ta d1) (h2 : b = false → Ev1 r m tb d2) : Ev1 r m (tIf t ta tb) (if b = true then d1 else d2) :=
  ev_ifR h (fun e => by rw [if_pos e]; exact h1 e) fun e => by rw [if_neg (by rw [e]; decide)]; exact h2 e
end
end DL
/-! DL2: promises, statements, loops, comprehensions over plain data. -/
namespace DL
open PySem L2
/-! ### promises -/
/-- a def's promise: pre of the arguments and the store, post of these, the answer and the store behind -/
def spD (pre : List D → Mu → Prop) (post : List D → Mu → RR) : Sp := fun vs H Q _ => ∃ z ds m, AtL (mm z m) H ds vs ∧ Vol z m H ∧ pre ds m ∧ Res z m H (post ds m) Q
theorem spD_len {pre : List D → Mu → Prop} {post : List D → Mu → RR} {n : Nat} (h : ∀ ds m, pre ds m → ds.length = n) : ∀ vs H Q E, spD pre post vs H Q E → vs.length = n := fun vs H Q E ⟨z, ds, m, a, _, p, _⟩ => by rw [a.len, h ds m p]
theorem ev_call {r : Rho} {m : Mu} {tl : TA} {E : XK} {R : RR} {R1 : List D → Mu → Prop} {pre : List D → Mu → Prop} {post : List D → Mu → RR} (ha : EvA r m tl R1)
    (k : ∀ ds m1, R1 ds m1 → pre ds m1 ∧ ∀ d m2, post ds m1 d m2 → R d m2) : Ev r m (tCall (spD pre post) [] E tl) R := fun z σ H e v Q q =>
  ha z σ H e v _ fun xs H1 ds m1 s1 a1 z1 => by
    obtain ⟨hp, hk⟩ := k ds m1 z1
    show spD pre post (xs ++ []) H1 Q E
    rw [List.append_nil]
    exact ⟨z, ds, m1, a1, s1.vol, hp, fun v H2 d m2 s2 a2 z2 => q v H2 d m2 (s1.trans s2) a2 (hk d m2 z2)⟩
theorem ev_call1 {r : Rho} {m : Mu} {tl : TA} {E : XK} {R : RR} {ds : List D} {pre : List D → Mu → Prop} {post : List D → Mu → RR} (ha : EvA1 r m tl ds) (hp : pre ds m) (k : ∀ d m2, post ds m d m2 → R d m2) : Ev r m (tCall (spD pre post) [] E tl) R :=
  ev_call ha fun ds' m' z => by obtain ⟨rfl, rfl⟩ := z; exact ⟨hp, k⟩
/-- a def that only reckons -/
abbrev spF (pre : List D → Prop) (f : List D → D) : Sp := spD (fun ds _ => pre ds) fun ds m => Is (f ds) m
theorem ev_callF {r : Rho} {m : Mu} {tl : TA} {E : XK} {ds : List D} {pre : List D → Prop} {f : List D → D} (ha : EvA1 r m tl ds) (hp : pre ds) : Ev1 r m (tCall (spF pre f) [] E tl) (f ds) := ev_call1 ha hp fun _ _ z => z

/-! ### statements -/
structure Anc where
  z : Zs
  M : Addr → Prop
  G : Hp
structure Post where
  nx : Rho → Mu → Prop
  rt : RR
  bk : Rho → Mu → Prop := fun _ _ => False
  ct : Rho → Mu → Prop := fun _ _ => False
def Held (A : List Anc) (z : Zs) (m : Mu) (H : Hp) : Prop := ∀ B ∈ A, B.z = z ∧ Ext (fun a => B.M a ∨ z a ≠ none) B.G (mm z m) H ∧ ∀ a, B.M a → dm m a
structure OkA (A : List Anc) (r : Rho) (z : Zs) (m : Mu) (σ : L2.St) (H : Hp) : Prop where
  env : EnvR (mm z m) H r σ
  vol : Vol z m H
  held : Held A z m H
structure Fits (A : List Anc) (z : Zs) (P : Post) (En : Ends) : Prop where
  nx : ∀ r m σ H, OkA A r z m σ H → P.nx r m → En.nx σ H
  rt : ∀ v H d m, Vol z m H → Held A z m H → At (mm z m) H d v → P.rt d m → En.rt v H
  bk : ∀ r m σ H, OkA A r z m σ H → P.bk r m → En.bk σ H
  ct : ∀ r m σ H, OkA A r z m σ H → P.ct r m → En.ct σ H
def Wp (A : List Anc) (r : Rho) (m : Mu) (ts : TS) (P : Post) : Prop := ∀ z σ H, OkA A r z m σ H → ∀ En : Ends, Fits A z P En → ts En σ H
section
variable {A : List Anc} {r r' : Rho} {z : Zs} {m m' m1 : Mu} {σ : L2.St} {H H1 H' : Hp} {P P' : Post} {t u w : TS} {te ta tb : TE} {d : D} {R : RR} {g : TG}
theorem Held.step (h : Held A z m H) (s : Stp z m H m' H') : Held A z m' H' := fun B hB => by
  obtain ⟨e0, e1, e2⟩ := h B hB
  exact ⟨e0, e1.trans s.ext, fun a ha => s.sub a (e2 a ha)⟩
theorem OkA.step (h : OkA A r z m σ H) (s : Stp z m H m' H') : OkA A r z m' σ H' := ⟨h.env.go s.ext, s.vol, h.held.step s⟩
theorem OkA.set (h : OkA A r z m σ H) (i : Nat) {x : V} (a : At (mm z m) H d x) : OkA A (r.set i (some d)) z m (σ.set i (some x)) H := ⟨h.env.set i a, h.vol, h.held⟩
theorem wp_seq (h : Wp A r m t { P with nx := fun r' m' => Wp A r' m' u P }) : Wp A r m (tSeq t u) P := fun z σ H o En F =>
  h z σ H o { En with nx := u En } ⟨fun r' m' σ' H' o' p => p z σ' H' o' En F, F.rt, F.bk, F.ct⟩
theorem wp_post (h : Wp A r m t P) (kn : ∀ r m, P.nx r m → P'.nx r m) (kr : ∀ d m, P.rt d m → P'.rt d m) (kb : ∀ r m, P.bk r m → P'.bk r m) (kc : ∀ r m, P.ct r m → P'.ct r m) : Wp A r m t P' := fun z σ H o En F =>
  h z σ H o En ⟨fun r m σ H o p => F.nx r m σ H o (kn r m p), fun v H d m a b c p => F.rt v H d m a b c (kr d m p), fun r m σ H o p => F.bk r m σ H o (kb r m p), fun r m σ H o p => F.ct r m σ H o (kc r m p)⟩
/-- slots may be forgotten -/
theorem wp_forget (i : Nat) (h : Wp A (r.set i none) m t P) : Wp A r m t P := fun z σ H o En F => h z σ H ⟨o.env.forget i, o.vol, o.held⟩ En F
theorem wp_env (e : r = r') (h : Wp A r' m t P) : Wp A r m t P := e ▸ h
theorem wp_next (h : P.nx r m) : Wp A r m tNext P := fun z σ H o En F => F.nx r m σ H o h
theorem wp_break (h : P.bk r m) : Wp A r m tBreak P := fun z σ H o En F => F.bk r m σ H o h
theorem wp_cont (h : P.ct r m) : Wp A r m tCont P := fun z σ H o En F => F.ct r m σ H o h
theorem wp_ret (h : Ev r m te P.rt) : Wp A r m (tRet te) P := fun z σ H o En F =>
  h z σ H o.env o.vol En.rt fun x H2 d m' s a p => F.rt x H2 d m' s.vol (o.held.step s) a p
theorem wp_retN (h : P.rt .non m) : Wp A r m tRetN P := fun z σ H o En F => F.rt .non H .non m o.vol o.held (by unfold At; rfl) h
theorem wp_drop (h : Ev r m te fun _ m' => P.nx r m') : Wp A r m (tDrop te) P := fun z σ H o En F =>
  h z σ H o.env o.vol (fun _ H1 => En.nx σ H1) fun x H2 d m' s a p => F.nx r m' σ H2 (o.step s) p
theorem wp_ifs {c : TT} {Rb : Bool → Mu → Prop} (h : EvT r m c Rb) (h1 : ∀ m', Rb true m' → Wp A r m' t P) (h2 : ∀ m', Rb false m' → Wp A r m' u P) : Wp A r m (tIfS c t u) P := fun z σ H o En F =>
  h z σ H o.env o.vol _ fun b H1 m1 s z1 => by
    cases b with
    | true => exact iteT (h1 m1 z1 z σ H1 (o.step s) En F)
    | false => exact iteF (h2 m1 z1 z σ H1 (o.step s) En F)
theorem wp_ifs1 {c : TT} {b : Bool} (h : EvT1 r m c b) (h1 : b = true → Wp A r m t P) (h2 : b = false → Wp A r m u P) : Wp A r m (tIfS c t u) P :=
  wp_ifs h (fun m' q => by obtain ⟨e, rfl⟩ := q; exact h1 e.symm) fun m' q => by obtain ⟨e, rfl⟩ := q; exact h2 e.symm
/-- if without else, then the rest -/
theorem q_if {c : TT} {b : Bool} (h : EvT1 r m c b) (h1 : b = true → Wp A r m t { P with nx := fun r' m' => Wp A r' m' w P }) (h2 : b = false → Wp A r m w P) : Wp A r m (tSeq (tIfS c t tNext) w) P :=
  wp_seq (wp_ifs1 h h1 fun e => wp_next (h2 e))
/-! targets -/
def Gd (r : Rho) (m : Mu) (g : TG) (d : D) (r' : Rho) (is : List Nat) : Prop := ∀ z σ H x, EnvR (mm z m) H r σ → Vol z m H → At (mm z m) H d x → ∀ Q : L2.St → Hp → Prop,
  (∀ σ', EnvR (mm z m) H r' σ' → σ'.length = σ.length → (∀ k, k ∉ is → σ'[k]? = σ[k]?) → Q σ' H) → g x σ H Q
def GdL (r : Rho) (m : Mu) (g : TGs) (ds : List D) (r' : Rho) (is : List Nat) : Prop := ∀ z σ H xs, EnvR (mm z m) H r σ → Vol z m H → AtL (mm z m) H ds xs → ∀ Q : L2.St → Hp → Prop,
  (∀ σ', EnvR (mm z m) H r' σ' → σ'.length = σ.length → (∀ k, k ∉ is → σ'[k]? = σ[k]?) → Q σ' H) → g xs σ H Q
theorem gd_name {i : Nat} : Gd r m (gName i) d (r.set i (some d)) [i] := fun z σ H x e v a Q q =>
  q _ (e.set i a) (by rw [List.length_set]) fun k hk => by rw [List.getElem?_set_ne (by simp at hk; omega)]
theorem gd_tup {K : PySem.W.Frag} {gs : TGs} {ds : List D} {n : Nat} {is : List Nat} (h : GdL r m gs ds r' is) (hn : ds.length = n := by rfl) : Gd r m (gTup K n gs) (.tup ds) r' is := fun z σ H x e v a Q q => by
  unfold At at a
  obtain ⟨b, xs, rfl, n1, hb, hl⟩ := a
  exact ⟨b, xs, rfl, .of hb, by rw [hl.len, hn], h z σ H xs e v hl Q q⟩
theorem gdl_nil : GdL r m gNil [] r [] := fun z σ H xs e v a Q q => ⟨a.inv0, q σ e rfl fun _ _ => rfl⟩
theorem gdl_cons {gs : TGs} {ds : List D} {is js : List Nat} {r1 : Rho} (h : Gd r m g d r1 is) (t : GdL r1 m gs ds r' js) : GdL r m (gCons g gs) (d :: ds) r' (is ++ js) := fun z σ H xs e v a Q q => by
  obtain ⟨x, xs', rfl, h1, h2⟩ := a.inv
  exact ⟨x, xs', rfl, h z σ H x e v h1 _ fun σ1 e1 l1 k1 => t z σ1 H xs' e1 v h2 Q fun σ2 e2 l2 k2 => q σ2 e2 (l2.trans l1) fun k hk => by
    simp only [List.mem_append, not_or] at hk
    rw [k2 k hk.2, k1 k hk.1]⟩
theorem wp_asgG {is : List Nat} {R : RR} (h : Ev r m te R) (k : ∀ d m', R d m' → ∃ r' is, Gd r m' g d r' is ∧ P.nx r' m') : Wp A r m (tAsg te g) P := fun z σ H o En F =>
  h z σ H o.env o.vol _ fun x H2 d m' s a p => by
    obtain ⟨r', is, hg, hn⟩ := k d m' p
    have o2 := o.step s
    exact hg z σ H2 x o2.env o2.vol a _ fun σ' e' _ _ => F.nx r' m' σ' H2 ⟨e', o2.vol, o2.held⟩ hn
theorem wp_asg {i : Nat} (h : Ev r m te fun d m' => P.nx (r.set i (some d)) m') : Wp A r m (tAsg te (gName i)) P := fun z σ H o En F =>
  h z σ H o.env o.vol _ fun x H2 d m' s a p => F.nx _ m' _ H2 ((o.step s).set i a) p
theorem q_asg {i : Nat} (h : Ev r m te R) (k : ∀ d m', R d m' → Wp A (r.set i (some d)) m' w P) : Wp A r m (tSeq (tAsg te (gName i)) w) P := wp_seq (wp_asg (ev_mono h k))
theorem q_asg1 {i : Nat} (h : Ev1 r m te d) (k : Wp A (r.set i (some d)) m w P) : Wp A r m (tSeq (tAsg te (gName i)) w) P := q_asg h fun d' m' q => by obtain ⟨rfl, rfl⟩ := q; exact k
theorem q_asgV {i : Nat} {c : VC} (h : Ev r m te (NewV c m)) (k : ∀ l, ¬ dm m l → Wp A (r.set i (some (.vol l))) (pt m l c) w P) : Wp A r m (tSeq (tAsg te (gName i)) w) P := q_asg h fun d' m' q => by obtain ⟨l, rfl, hl, rfl⟩ := q; exact k l hl
theorem q_asgG {is : List Nat} (h : Ev1 r m te d) (hg : Gd r m g d r' is) (k : Wp A r' m w P) : Wp A r m (tSeq (tAsg te g) w) P :=
  wp_seq (wp_asgG (is := is) h fun d' m' q => by obtain ⟨rfl, rfl⟩ := q; exact ⟨r', is, hg, k⟩)
theorem q_drop (h : Ev r m te R) (k : ∀ d m', R d m' → Wp A r m' w P) : Wp A r m (tSeq (tDrop te) w) P := wp_seq (wp_drop (ev_mono h k))
theorem q_ret (h : Ev r m te P.rt) : Wp A r m (tRet te) P := wp_ret h
theorem wp_par {i j : Nat} {tl : TA} {d1 d2 : D} (h : EvA1 r m tl [d1, d2]) (k : P.nx ((r.set i (some d1)).set j (some d2)) m) : Wp A r m (tPar i j tl) P := fun z σ H o En F =>
  h z σ H o.env o.vol _ fun xs H2 ds m' s a p => by
    obtain ⟨rfl, rfl⟩ := p
    obtain ⟨x, t1, rfl, a1, a2⟩ := a.inv
    obtain ⟨y, t2, rfl, a3, a4⟩ := a2.inv
    obtain rfl := a4.inv0
    exact ⟨x, y, rfl, F.nx _ _ _ H2 (((o.step s).set i a1).set j a3) k⟩
theorem wp_aug {i : Nat} {ti : TIp} {d0 : D} (hx : r[i]? = some (some d0)) (h : Ev1 r m te d) (ho : Op ti m d0 d fun d' m' => P.nx (r.set i (some d')) m') : Wp A r m (tAug i te ti) P := fun z σ H o En F => by
  obtain ⟨x, e1, a1⟩ := o.env.get hx
  refine ⟨x, e1, h z σ H o.env o.vol _ fun y H2 d' m' s a p => ?_⟩
  obtain ⟨rfl, rfl⟩ := p
  have o2 := o.step s
  exact ho z H2 x y o2.vol (At.go s.ext _ _ a1) a _ fun v H3 d3 m3 s3 a3 p3 => F.nx _ m3 _ H3 ((o2.step s3).set i a3) p3
/-- a changing list that no longer changes -/
def rm (m : Mu) (l : Addr) : Mu := fun b => if b = l then none else m b
theorem rm_pt {l : Addr} {c : VC} (h : ¬ dm m l) : rm (pt m l c) l = m := by
  funext b
  unfold rm pt
  by_cases e : b = l
  · rw [if_pos e, e]
    exact (Classical.byContradiction fun q => h fun z => q z.symm)
  · rw [if_neg e, if_neg e]
theorem rm_mm {a l : Addr} (h : mm z (rm m l) a) : mm z m a := by
  rcases h with h | h
  · left
    unfold dm rm at *
    by_cases e : a = l
    · rw [if_pos e] at h; exact absurd rfl h
    · rw [if_neg e] at h; exact h
  · exact .inr h
theorem rm_dm {a l : Addr} (h : dm m a) (n : a ≠ l) : dm (rm m l) a := by
  unfold dm rm at *
  rw [if_neg n]; exact h
theorem rm_ext {l : Addr} : Ext (mm z m) H (mm z (rm m l)) H := fun a o h n => ⟨h, fun q => n (rm_mm q)⟩
theorem rm_vol {l : Addr} (v : Vol z m H) : Vol z (rm m l) H := by
  refine ⟨fun a c h => ?_, fun a o h => ?_⟩
  · have e : m a = some c := by
      unfold rm at h
      by_cases e : a = l
      · rw [if_pos e] at h; cases h
      · rw [if_neg e] at h; exact h
    exact VAt.go rm_ext (fun _ q => q) (v.at_ a c e)
  · obtain ⟨h1, h2⟩ := v.hid a o h
    refine ⟨h1, ?_⟩
    unfold rm
    split
    · rfl
    · exact h2
theorem held_rm {l : Addr} (h : Held A z m H) (hA : ∀ B ∈ A, ¬ B.M l) : Held A z (rm m l) H := fun B hB => by
  obtain ⟨e0, e1, e2⟩ := h B hB
  exact ⟨e0, e1.trans rm_ext, fun a ha => rm_dm (e2 a ha) fun q => hA B hB (q ▸ ha)⟩
/-- the data that the list in the slot holds -/
def fz : VC → Option D
  | .lst ds => some (.lst ds)
  | .dic kvs => some (.dic kvs)
  | .ins _ _ _ => none
theorem at_fz {l : Addr} {c : VC} (v : Vol z m H) (hl : m l = some c) (hd : fz c = some d) : At (mm z (rm m l)) H d (.ref l) := by
  have nl : ¬ mm z (rm m l) l := fun q => by
    rcases q with q | q
    · unfold dm rm at q; rw [if_pos rfl] at q; exact q rfl
    · exact q (v.nz (dm_of hl))
  have hv := v.at_ l c hl
  cases c with
  | lst ds =>
    cases hd
    obtain ⟨xs, h1, h2⟩ := hv
    unfold At
    exact ⟨l, xs, rfl, nl, h1, h2.go rm_ext⟩
  | dic kvs =>
    cases hd
    unfold At
    exact ⟨l, rfl, nl, hv⟩
  | ins _ _ _ => cases hd
theorem wp_freeze {i : Nat} {l : Addr} {c : VC} (hr : r[i]? = some (some (.vol l))) (hl : m l = some c) (hd : fz c = some d) (hA : ∀ B ∈ A, ¬ B.M l) (h : Wp A (r.set i (some d)) (rm m l) t P) : Wp A r m t P := fun z σ H o En F => by
  obtain ⟨x, e1, a1⟩ := o.env.get hr
  have ex : x = .ref l := by unfold At at a1; exact a1
  subst ex
  have e2 : EnvR (mm z (rm m l)) H (r.set i (some d)) σ := by
    have q := (o.env.go (rm_ext (l := l))).set i (at_fz o.vol hl hd)
    have : σ.set i (some (V.ref l)) = σ := by
      obtain ⟨hi, h2⟩ := List.getElem?_eq_some_iff.mp e1
      rw [← h2, List.set_getElem_self]
    rw [this] at q
    exact q
  exact h z σ H ⟨e2, rm_vol o.vol, held_rm o.held hA⟩ En F
end
end DL
/-! DL3: a def's promise from its body, what is walked, for, comprehensions, while. -/
namespace DL
open PySem PySem.Spec PyProof.Rows L2
/-! ### a def -/
def Inc (m m1 : Mu) : Prop := ∀ a c, m a = some c → m1 a = some c
theorem Inc.refl (m : Mu) : Inc m m := fun _ _ h => h
theorem Inc.trans {a b c : Mu} (h : Inc a b) (k : Inc b c) : Inc a c := fun x d e => k x d (h x d e)
theorem Inc.new {m : Mu} {l : Addr} {c : VC} (h : ¬ dm m l) : Inc m (pt m l c) := fun a d e => by
  rw [pt_ne (ne_dm (dm_of e) h)]; exact e
theorem Inc.put {m m1 : Mu} {l : Addr} {c : VC} (i : Inc m m1) (h : ¬ dm m l) : Inc m (pt m1 l c) := fun a d e => by
  rw [pt_ne (ne_dm (dm_of e) h)]; exact i a d e
theorem Inc.dm {m m1 : Mu} (i : Inc m m1) {a : Addr} (h : dm m a) : DL.dm m1 a := by
  cases e : m a with
  | none => exact absurd e h
  | some c => exact dm_of (i a c e)
theorem Inc.rm {m m1 : Mu} {l : Addr} (i : Inc m m1) (h : ¬ DL.dm m l) : Inc m (rm m1 l) := fun a d e => by
  have n := ne_dm (dm_of e) h
  unfold DL.rm
  rw [if_neg n]
  exact i a d e
theorem Inc.mm {z : Zs} {m m1 : Mu} (i : Inc m m1) {a : Addr} (h : DL.mm z m a) : DL.mm z m1 a := h.imp i.dm id
theorem Inc.ext {z : Zs} {m m1 : Mu} {H : Hp} (i : Inc m m1) : Ext (DL.mm z m1) H (DL.mm z m) H := fun a o h n => ⟨h, fun q => n (i.mm q)⟩
theorem Inc.vol {z : Zs} {m m1 : Mu} {H : Hp} (i : Inc m m1) (v : Vol z m1 H) : Vol z m H :=
  ⟨fun a c h => VAt.go i.ext (fun _ q => q) (v.at_ a c (i a c h)), fun a o h => by
    obtain ⟨h1, h2⟩ := v.hid a o h
    refine ⟨h1, ?_⟩
    cases e : m a with
    | none => rfl
    | some c => rw [i a c e] at h2; cases h2⟩
def Fin (post : List D → Mu → RR) (ds : List D) (m : Mu) : RR := fun d m1 => ∃ m', Inc m' m1 ∧ (∀ a, dm m a → dm m' a) ∧ post ds m d m'
def PF (post : List D → Mu → RR) (ds : List D) (m : Mu) : Post := { nx := fun _ m1 => Fin post ds m .non m1, rt := Fin post ds m }
theorem fin_is {f : List D → D} {ds : List D} {m m1 : Mu} {d : D} (i : Inc m m1) (e : d = f ds) : Fin (fun ds m => Is (f ds) m) ds m d m1 := ⟨m, i, fun _ h => h, e, rfl⟩
def start0 (n : Nat) (ds : List D) : Rho := ds.map some ++ List.replicate (n - ds.length) none
theorem fn_go {P : Program} {w : World} {K : PySem.W.Frag} {mg : Str → Option Value} {base : Heap} {x qual : Str} {params : Arguments} {body : List Stmt} {scope : Scope} {f : Addr} {fd : FuncData} {dvs : List V} {kws : List (Str × V)}
    {N ps : List Str} {k : Nat} {pre : List D → Mu → Prop} {post : List D → Mu → RR} {t : TS}
    (F : FunD K x qual params body scope dvs kws f fd) (S : FnScope N ps scope)
    (hw : ∀ (cdv : Value) (A : Around) (outer : List Env) (s : Shared) (H : Hp) (E : XK), Room k (A.deeper (envOfC qual scope s.heap.objs.size f cdv)) → PSs (cxOf CX0 P w K mg base N qual scope f cdv A outer s H E).nox body t)
    (hl : ∀ ds m, pre ds m → ds.length = ps.length)
    (hp : ∀ ds m, pre ds m → ∀ A : List Anc, (∀ B ∈ A, B.M = dm m) → Wp A (start0 N.length ds) m t (PF post ds m)) : FnOk P w K mg base CX0 (k + 1) f fd ps (spD pre post) := by
  refine F.ok S (spD_len hl) fun cdv A outer s H vs Q E hr h => ⟨t, (hw cdv A outer s H E hr).nox, ?_⟩
  obtain ⟨z, ds, m, a, v, p, q⟩ := h
  have ho : OkA [⟨z, dm m, H⟩] (start0 N.length ds) z m (L2.start N vs) H := by
    refine ⟨?_, v, fun B hB => ?_⟩
    · have e := start_env (N.length - ds.length) a
      unfold start0 L2.start
      rw [a.len]
      exact e
    · obtain rfl := List.mem_singleton.mp hB
      exact ⟨rfl, .refl _ _, fun _ h => h⟩
  have fin : ∀ (x : V) (H' : Hp) (d : D) (m1 : Mu), Vol z m1 H' → Held [⟨z, dm m, H⟩] z m1 H' → At (mm z m1) H' d x → Fin post ds m d m1 → Q x H' := fun x H' d m1 v1 hd ad f => by
    obtain ⟨m', i, sb, po⟩ := f
    obtain ⟨_, e1, _⟩ := hd _ (List.mem_singleton.mpr rfl)
    exact q x H' d m' ⟨e1.trans i.ext, sb, i.vol v1⟩ (At.go i.ext _ _ ad) po
  exact hp ds m p _ (fun B hB => by obtain rfl := List.mem_singleton.mp hB; rfl) z _ H ho _ ⟨fun r m1 σ H' o f => fin .non H' .non m1 o.vol o.held (by unfold At; rfl) f, fun x H' d m1 v1 hd ad f => fin x H' d m1 v1 hd ad f, fun _ _ _ _ _ q => False.elim q, fun _ _ _ _ _ q => False.elim q⟩

/-! ### what is walked -/
structure Yld (z : Zs) (m0 : Mu) (H0 : Hp) (J : It) (ds : List D) (Keep : Mu → Prop) : Prop where
  go : ∀ i d z' m' H', ds[i]? = some d → Ext (mm z m0) H0 (mm z' m') H' → Vol z' m' H' → Keep m' → J.go i H' ∧ ∀ x H2, J.yld i H' x H2 → Stp z' m' H' m' H2 ∧ At (mm z' m') H2 d x
  stop : ∀ z' m' H', Ext (mm z m0) H0 (mm z' m') H' → Vol z' m' H' → Keep m' → J.stop ds.length H'
def Src (r : Rho) (m : Mu) (wi : TI) (Keep : Mu → Prop) (S : List D → Mu → Prop) : Prop := ∀ z σ H, EnvR (mm z m) H r σ → Vol z m H → ∀ R : It → Hp → Prop,
  (∀ J H1 m1 ds, Stp z m H m1 H1 → S ds m1 → Yld z m1 H1 J ds Keep → R J H1) → wi σ H R
def KT : Mu → Prop := fun _ => True
section
variable {A : List Anc} {r r' : Rho} {z : Zs} {m m' m1 : Mu} {σ : L2.St} {H H1 H' : Hp} {P P' : Post} {t u w : TS} {te tl : TE} {ta : TA} {d : D} {R : RR} {g : TG} {K : PySem.W.Frag} {S : List D → Mu → Prop} {ds : List D} {tt : TT} {Keep : Mu → Prop}
theorem yld_list {a : Addr} {xs : List V} (n : ¬ mm z m a) (h : H a = some (.lst xs)) (hl : AtL (mm z m) H ds xs) : Yld z m H (Itl K a) ds KT := by
  refine ⟨fun i d z' m' H' hd e v _ => ?_, fun z' m' H' e v _ => ?_⟩
  · obtain ⟨h1, n1⟩ := e a _ h n
    obtain ⟨x, hx, ax⟩ := hl.get hd
    refine ⟨⟨xs, x, .of h1, hx⟩, fun y H2 hy => ?_⟩
    obtain ⟨rfl, hy⟩ := hy
    have := hy xs (.of h1)
    rw [hx] at this; cases this
    exact ⟨.refl v, At.go e _ _ ax⟩
  · obtain ⟨h1, n1⟩ := e a _ h n
    exact ⟨xs, .of h1, by rw [hl.len]; exact Nat.le_refl _⟩
theorem yld_tup {a : Addr} {xs : List V} (n : ¬ mm z m a) (h : H a = some (.tup xs)) (hl : AtL (mm z m) H ds xs) : Yld z m H (Itt K a) ds KT := by
  refine ⟨fun i d z' m' H' hd e v _ => ?_, fun z' m' H' e v _ => ?_⟩
  · obtain ⟨h1, n1⟩ := e a _ h n
    obtain ⟨x, hx, ax⟩ := hl.get hd
    refine ⟨⟨xs, x, .of h1, hx⟩, fun y H2 hy => ?_⟩
    obtain ⟨rfl, hy⟩ := hy
    have := hy xs (.of h1)
    rw [hx] at this; cases this
    exact ⟨.refl v, At.go e _ _ ax⟩
  · obtain ⟨h1, n1⟩ := e a _ h n
    exact ⟨xs, .of h1, by rw [hl.len]; exact Nat.le_refl _⟩
theorem yld_vol {a : Addr} : Yld z m H (Itl K a) ds (fun m' => m' a = some (.lst ds)) := by
  refine ⟨fun i d z' m' H' hd e v hk => ?_, fun z' m' H' e v hk => ?_⟩
  · obtain ⟨xs, h1, hl⟩ := v.at_ a _ hk
    obtain ⟨x, hx, ax⟩ := hl.get hd
    refine ⟨⟨xs, x, .of h1, hx⟩, fun y H2 hy => ?_⟩
    obtain ⟨rfl, hy⟩ := hy
    have := hy xs (.of h1)
    rw [hx] at this; cases this
    exact ⟨.refl v, ax⟩
  · obtain ⟨xs, h1, hl⟩ := v.at_ a _ hk
    exact ⟨xs, .of h1, by rw [hl.len]; exact Nat.le_refl _⟩
theorem src_list (h : Ev r m tl R) (k : ∀ d m1, R d m1 → ∃ ds, d = .lst ds ∧ S ds m1) : Src r m (iList K tl) KT S := fun z σ H e v Rq q =>
  h z σ H e v _ fun x H1 d m1 s a p => by
    obtain ⟨ds, rfl, hs⟩ := k d m1 p
    unfold At at a
    obtain ⟨b, xs, rfl, n, hb, hl⟩ := a
    exact ⟨b, rfl, ⟨xs, .of hb⟩, q _ H1 m1 ds s hs (yld_list n hb hl)⟩
theorem src_tup (h : Ev r m tl R) (k : ∀ d m1, R d m1 → ∃ ds, d = .tup ds ∧ S ds m1) : Src r m (iTup K tl) KT S := fun z σ H e v Rq q =>
  h z σ H e v _ fun x H1 d m1 s a p => by
    obtain ⟨ds, rfl, hs⟩ := k d m1 p
    unfold At at a
    obtain ⟨b, xs, rfl, n, hb, hl⟩ := a
    exact ⟨b, rfl, ⟨xs, .of hb⟩, q _ H1 m1 ds s hs (yld_tup n hb hl)⟩
def SIs (ds : List D) (m : Mu) : List D → Mu → Prop := fun d' m' => d' = ds ∧ m' = m
theorem src_list1 (h : Ev1 r m tl (.lst ds)) : Src r m (iList K tl) KT (SIs ds m) := src_list h fun d m1 q => ⟨ds, q.1, rfl, q.2⟩
theorem src_tup1 (h : Ev1 r m tl (.tup ds)) : Src r m (iTup K tl) KT (SIs ds m) := src_tup h fun d m1 q => ⟨ds, q.1, rfl, q.2⟩
theorem src_vol {a : Addr} (h : Ev1 r m tl (.vol a)) (hk : m a = some (.lst ds)) : Src r m (iList K tl) (fun m' => m' a = some (.lst ds)) (SIs ds m) := fun z σ H e v Rq q =>
  h z σ H e v _ fun x H1 d m1 s a' p => by
    obtain ⟨rfl, rfl⟩ := p
    have ex : x = .ref a := by unfold At at a'; exact a'
    obtain ⟨xs, h1, _⟩ := s.vol.at_ a _ hk
    exact ⟨a, ex, ⟨xs, .of h1⟩, q _ H1 m1 ds s ⟨rfl, rfl⟩ yld_vol⟩
/-- lo, lo + 1, .. -/
def rngD (lo : Int) (n : Nat) : List D := (List.range n).map fun i => D.int (lo + (i : Nat))
theorem rngD_len {lo : Int} {n : Nat} : (rngD lo n).length = n := by unfold rngD; rw [List.length_map, List.length_range]
theorem rngD_get {lo : Int} {n i : Nat} {d : D} (h : (rngD lo n)[i]? = some d) : i < n ∧ d = .int (lo + (i : Nat)) := by
  unfold rngD at h
  rw [List.getElem?_map] at h
  by_cases hi : i < n
  · rw [List.getElem?_range hi] at h
    exact ⟨hi, (Option.some.inj h).symm⟩
  · rw [List.getElem?_eq_none (by rw [List.length_range]; omega)] at h; cases h
theorem yld_rng {lo : Int} {n : Nat} : Yld z m H (Itr lo n) (rngD lo n) KT := by
  refine ⟨fun i d z' m' H' hd e v _ => ?_, fun z' m' H' e v _ => by show n ≤ _; rw [rngD_len]; exact Nat.le_refl _⟩
  obtain ⟨hi, rfl⟩ := rngD_get hd
  refine ⟨hi, fun x H2 hy => ?_⟩
  obtain ⟨rfl, rfl⟩ := hy
  exact ⟨.refl v, by unfold At; rfl⟩
theorem src_rng1 {R : List D → Mu → Prop} (h : EvA r m ta R) (k : ∀ ds m1, R ds m1 → ∃ j : Int, ds = [.int j] ∧ -100000000 ≤ j ∧ j < 100000000 ∧ S (rngD 0 j.toNat) m1) : Src r m (iRng1 ta) KT S := fun z σ H e v Rq q =>
  h z σ H e v _ fun xs H1 ds m1 s a p => by
    obtain ⟨j, rfl, h1, h2, hs⟩ := k ds m1 p
    obtain ⟨x, t1, rfl, a1, a2⟩ := a.inv
    obtain rfl := a2.inv0
    have ex : x = .int j := by unfold At at a1; exact a1
    exact ⟨j, by rw [ex], by omega, by omega, q _ H1 m1 _ s hs yld_rng⟩
theorem src_rng2 {R : List D → Mu → Prop} (h : EvA r m ta R) (k : ∀ ds m1, R ds m1 → ∃ i j : Int, ds = [.int i, .int j] ∧ (-100000000 ≤ i ∧ i < 100000000 ∧ -100000000 ≤ j ∧ j < 100000000) ∧ S (rngD i (j - i).toNat) m1) : Src r m (iRng2 ta) KT S := fun z σ H e v Rq q =>
  h z σ H e v _ fun xs H1 ds m1 s a p => by
    obtain ⟨i, j, rfl, h1, hs⟩ := k ds m1 p
    obtain ⟨x, t1, rfl, a1, a2⟩ := a.inv
    obtain ⟨y, t2, rfl, a3, a4⟩ := a2.inv
    obtain rfl := a4.inv0
    have ex : x = .int i := by unfold At at a1; exact a1
    have ey : y = .int j := by unfold At at a3; exact a3
    exact ⟨i, j, by rw [ex, ey], by omega, q _ H1 m1 _ s hs yld_rng⟩
theorem src_rng1' {n : Nat} (h : EvA1 r m ta [.int (n : Int)]) (hn : n < 100000000) : Src r m (iRng1 ta) KT (SIs (rngD 0 n) m) := src_rng1 h fun ds m1 q => ⟨n, q.1, by omega, by omega, by rw [Int.toNat_natCast]; exact ⟨rfl, q.2⟩⟩

/-! ### for -/
theorem wp_for (h : Src r m wi Keep S) (k : ∀ ds m1, S ds m1 → ∃ J : Nat → Rho → Mu → Prop, J 0 r m1 ∧ (∀ i r' m', J i r' m' → Keep m') ∧
    (∀ (B : Anc) i d r' m', B.M = dm m1 → ds[i]? = some d → J i r' m' → ∃ r'' is, Gd r' m' g d r'' is ∧ Wp (B :: A) r'' m' t { P with nx := J (i + 1), ct := J (i + 1), bk := P.nx }) ∧ ∀ r' m', J ds.length r' m' → P.nx r' m') : Wp A r m (tFor wi g t) P := fun z σ H o En F =>
  h z σ H o.env o.vol _ fun J0 H1 m1 ds s hs y => by
    obtain ⟨J, j0, jk, js, jd⟩ := k ds m1 hs
    have o1 := o.step s
    have hB : ∀ {r' m' σ' H'}, OkA (⟨z, dm m1, H1⟩ :: A) r' z m' σ' H' → Ext (mm z m1) H1 (mm z m') H' := fun {r' m' σ' H'} o' => (o'.held _ (List.mem_cons_self)).2.1
    have down : ∀ {r' m' σ' H'}, OkA (⟨z, dm m1, H1⟩ :: A) r' z m' σ' H' → OkA A r' z m' σ' H' := fun {r' m' σ' H'} o' => ⟨o'.env, o'.vol, fun C hC => o'.held C (List.mem_cons_of_mem _ hC)⟩
    refine ⟨fun i k σ' H' => k = ds.length - i ∧ i ≤ ds.length ∧ ∃ r' m', OkA (⟨z, dm m1, H1⟩ :: A) r' z m' σ' H' ∧ J i r' m', ⟨ds.length, by simp, Nat.zero_le _, r, m1, ⟨o1.env, o1.vol, fun C hC => ?_⟩, j0⟩, ?_⟩
    · rcases List.mem_cons.mp hC with rfl | hC
      · exact ⟨rfl, .refl _ _, fun _ h => h⟩
      · exact o1.held C hC
    · rintro i k σ' H' ⟨rfl, hi, r', m', o', ji⟩
      by_cases hlt : i < ds.length
      · obtain ⟨hgo, hy⟩ := y.go i ds[i] z m' H' (List.getElem?_eq_getElem hlt) (hB o') o'.vol (jk i r' m' ji)
        refine .inr ⟨hgo, fun σ2 H2 => ∃ r2 m2, OkA (⟨z, dm m1, H1⟩ :: A) r2 z m2 σ2 H2 ∧ J (i + 1) r2 m2, fun σ2 H2 q => ⟨ds.length - (i + 1), by omega, rfl, hlt, q⟩, fun x H2 hx => ?_⟩
        obtain ⟨s2, a2⟩ := hy x H2 hx
        obtain ⟨r'', is, hg, hw⟩ := js ⟨z, dm m1, H1⟩ i ds[i] r' m' rfl (List.getElem?_eq_getElem hlt) ji
        have o2 := o'.step s2
        exact hg z σ' H2 x o2.env o2.vol a2 _ fun σ3 e3 _ _ => hw z σ3 H2 ⟨e3, o2.vol, o2.held⟩ _ ⟨fun r3 m3 σ4 H4 o4 p => ⟨r3, m3, o4, p⟩, fun v H4 d m4 v4 h4 a4 p => F.rt v H4 d m4 v4 (fun C hC => h4 C (List.mem_cons_of_mem _ hC)) a4 p, fun r3 m3 σ4 H4 o4 p => F.nx r3 m3 σ4 H4 (down o4) p, fun r3 m3 σ4 H4 o4 p => ⟨r3, m3, o4, p⟩⟩
      · have ei : i = ds.length := by omega
        subst ei
        exact .inl ⟨y.stop z m' H' (hB o') o'.vol (jk _ r' m' ji), F.nx r' m' σ' H' (down o') (jd r' m' ji)⟩
/-- the loop, then the rest; a source that is reckoned alone -/
theorem q_for (J : Nat → Rho → Mu → Prop) (h : Src r m wi Keep (SIs ds m)) (j0 : J 0 r m) (jk : ∀ i r' m', J i r' m' → Keep m')
    (js : ∀ (B : Anc) i d r' m', B.M = dm m → ds[i]? = some d → J i r' m' → ∃ r'' is, Gd r' m' g d r'' is ∧ Wp (B :: A) r'' m' t { nx := J (i + 1), ct := J (i + 1), bk := fun r' m' => Wp A r' m' w P, rt := P.rt })
    (jd : ∀ r' m', J ds.length r' m' → Wp A r' m' w P) : Wp A r m (tSeq (tFor wi g t) w) P :=
  wp_seq (wp_for h fun ds' m1 q => by obtain ⟨rfl, rfl⟩ := q; exact ⟨J, j0, jk, js, jd⟩)

/-! ### comprehensions -/
def zp (z : Zs) (l : Addr) (xs : List V) : Zs := fun a => if a = l then some xs else z a
theorem zp_mm {l : Addr} {xs : List V} {a : Addr} : mm (zp z l xs) m a ↔ mm z m a ∨ a = l := by
  unfold mm zp
  by_cases e : a = l
  · simp [e]
  · simp [e]
theorem zp_vol {l : Addr} {xs : List V} (v : Vol z m H) (hl : H l = none) : Vol (zp z l xs) m (upd H l (.lst xs)) := by
  have e : Ext (mm z m) H (mm (zp z l xs) m) (upd H l (.lst xs)) := fun a o h n => by
    have ne := ne_of_none h hl
    refine ⟨by rw [upd_ne ne]; exact h, fun q => ?_⟩
    rcases zp_mm.mp q with q | q
    · exact n q
    · exact ne q
  refine ⟨fun a c h => VAt.go e (fun o q => by rw [upd_ne (ne_of_none q hl)]; exact q) (v.at_ a c h), fun a o h => ?_⟩
  unfold zp at h
  by_cases ea : a = l
  · rw [if_pos ea] at h
    cases h
    exact ⟨by rw [ea, upd_same], by rw [ea]; exact Classical.byContradiction fun q => v.freshM hl q⟩
  · rw [if_neg ea] at h
    obtain ⟨h1, h2⟩ := v.hid a o h
    exact ⟨by rw [upd_ne ea]; exact h1, h2⟩
theorem zp_more {l : Addr} {xs ys : List V} (v : Vol (zp z l xs) m H) : Vol (zp z l ys) m (upd H l (.lst ys)) ∧ Ext (mm (zp z l xs) m) H (mm (zp z l ys) m) (upd H l (.lst ys)) := by
  have e : Ext (mm (zp z l xs) m) H (mm (zp z l ys) m) (upd H l (.lst ys)) := fun a o h n => by
    have ne : a ≠ l := fun q => n (zp_mm.mpr (.inr q))
    refine ⟨by rw [upd_ne ne]; exact h, fun q => n (zp_mm.mpr (zp_mm.mp q))⟩
  obtain ⟨hl, ml⟩ := v.hid l xs (by unfold zp; rw [if_pos rfl])
  refine ⟨⟨fun a c h => VAt.go e (fun o q => by
    have ne : a ≠ l := fun z => by rw [z, ml] at h; cases h
    rw [upd_ne ne]; exact q) (v.at_ a c h), fun a o h => ?_⟩, e⟩
  unfold zp at h
  by_cases ea : a = l
  · rw [if_pos ea] at h
    cases h
    exact ⟨by rw [ea, upd_same], by rw [ea]; exact ml⟩
  · rw [if_neg ea] at h
    obtain ⟨h1, h2⟩ := v.hid a o (by unfold zp; rw [if_neg ea]; exact h)
    exact ⟨by rw [upd_ne ea]; exact h1, h2⟩
theorem zp_ext {l : Addr} {xs : List V} : Ext (mm (zp z l xs) m) H (mm z m) H := fun a o h n => ⟨h, fun q => n (zp_mm.mpr (.inl q))⟩
theorem zp_off {l : Addr} {xs : List V} (v : Vol (zp z l xs) m H) (hz : z l = none) : Vol z m H := by
  refine ⟨fun a c h => VAt.go zp_ext (fun _ q => q) (v.at_ a c h), fun a o h => ?_⟩
  have ne : a ≠ l := fun q => by rw [q, hz] at h; cases h
  exact v.hid a o (by unfold zp; rw [if_neg ne]; exact h)
theorem wipe_same {σ σ2 : L2.St} : ∀ {vs : List Nat}, σ2.length = σ.length → (∀ k, k ∉ vs → σ2[k]? = σ[k]?) → L2.wipe σ2 vs = L2.wipe σ vs := fun {vs} hl h => by
  have key : ∀ (vs : List Nat) (τ : L2.St) (k : Nat), (L2.wipe τ vs)[k]? = if k ∈ vs then (if k < τ.length then some none else none) else τ[k]? := fun vs => by
    induction vs with
    | nil => intro τ k; simp [L2.wipe]
    | cons v vs ih =>
      intro τ k
      show ((L2.wipe τ vs).set v none)[k]? = _
      rw [List.getElem?_set, ih, L2.wipe_length]
      by_cases e : v = k
      · subst e; simp
      · have e' : ¬ k = v := fun q => e q.symm
        simp [e, e']
  apply List.ext_getElem?
  intro k
  rw [key, key, hl]
  by_cases e : k ∈ vs
  · rw [if_pos e, if_pos e]
  · rw [if_neg e, if_neg e]
    exact h k e
theorem wipe_len {σ : L2.St} (vs : List Nat) : (L2.wipe σ vs).length = σ.length := L2.wipe_length σ vs
theorem wipe_get {σ : L2.St} : ∀ {vs : List Nat} {k : Nat}, k ∉ vs → (L2.wipe σ vs)[k]? = σ[k]?
  | [], _, _ => rfl
  | v :: vs, k, h => by
    simp only [List.mem_cons, not_or] at h
    show ((L2.wipe σ vs).set v none)[k]? = _
    rw [List.getElem?_set_ne (fun q => h.1 q.symm), wipe_get h.2]
theorem ev_lc {vs : List Nat} (h : Src r m wi Keep S) (k : ∀ ds m1, S ds m1 → ∃ I : Nat → List D → Mu → Prop, I 0 [] m1 ∧ (∀ i acc m', I i acc m' → Keep m') ∧
    (∀ i d acc m', ds[i]? = some d → I i acc m' → ∃ r' is, (∀ k ∈ is, k ∈ vs) ∧ Gd (wipeR r vs) m' g d r' is ∧ EvT r' m' tt fun b m2 => if b = true then Ev r' m2 te (fun y m3 => I (i + 1) (acc ++ [y]) m3) else I (i + 1) acc m2) ∧
    ds.length ≤ sizeLine ∧ ((∀ acc m', I ds.length acc m' → R (.lst acc) m') ∨ ∀ acc m', I ds.length acc m' → ∀ l, ¬ dm m' l → ¬ dm m l → R (.vol l) (pt m' l (.lst acc)))) : Ev r m (tLc wi g tt te vs) R := fun z σ H e v Q q =>
  h z σ H e v _ fun J0 H1 m1 ds s hs y => by
    intro Dl hDl
    obtain ⟨I, i0, ik, is_, hz, hd⟩ := k ds m1 hs
    have zl : z Dl = none := by
      cases q : z Dl with
      | none => rfl
      | some o => rw [(s.vol.hid Dl o q).1] at hDl; cases hDl
    have e1 : EnvR (mm z m1) H1 r σ := e.go s.ext
    have start : Ext (mm z m1) H1 (mm (zp z Dl []) m1) (upd H1 Dl (.lst [])) := fun a o h n => by
      have ne := ne_of_none h hDl
      refine ⟨by rw [upd_ne ne]; exact h, fun q => ?_⟩
      rcases zp_mm.mp q with q | q
      · exact n q
      · exact ne q
    refine ⟨fun i k H' => k = ds.length - i ∧ i ≤ ds.length ∧ ∃ acc xs m', Ext (mm z m1) H1 (mm (zp z Dl xs) m') H' ∧ (∀ a, dm m1 a → dm m' a) ∧ Vol (zp z Dl xs) m' H' ∧ AtL (mm (zp z Dl xs) m') H' acc xs ∧ acc.length ≤ i ∧ I i acc m',
      ⟨ds.length, by simp, Nat.zero_le _, [], [], m1, start, fun _ h => h, zp_vol s.vol hDl, .nil, Nat.le_refl _, i0⟩, ?_⟩
    rintro i k H' ⟨rfl, hi, acc, xs, m', x1, x2, x3, x4, x5, x6⟩
    by_cases hlt : i < ds.length
    · obtain ⟨hgo, hy⟩ := y.go i ds[i] _ m' H' (List.getElem?_eq_getElem hlt) x1 x3 (ik i acc m' x6)
      refine .inr ⟨hgo, fun H2 => ∃ acc xs m', Ext (mm z m1) H1 (mm (zp z Dl xs) m') H2 ∧ (∀ a, dm m1 a → dm m' a) ∧ Vol (zp z Dl xs) m' H2 ∧ AtL (mm (zp z Dl xs) m') H2 acc xs ∧ acc.length ≤ i + 1 ∧ I (i + 1) acc m', fun H2 p => ⟨ds.length - (i + 1), by omega, rfl, hlt, p⟩, fun x H2 hx => ?_⟩
      obtain ⟨s2, a2⟩ := hy x H2 hx
      obtain ⟨r', js, hjs, hg, ht⟩ := is_ i ds[i] acc m' (List.getElem?_eq_getElem hlt) x6
      have x1' := x1.trans s2.ext
      have eW : EnvR (mm (zp z Dl xs) m') H2 (wipeR r vs) (L2.wipe σ vs) := (e1.go x1').wipe vs
      refine hg _ _ H2 x eW s2.vol a2 _ fun σ3 e3 l3 k3 => ⟨?_, ?_⟩
      · refine wipe_same (by rw [l3, wipe_len]) fun k hk => ?_
        rw [k3 k (fun q => hk (hjs k q)), wipe_get hk]
      · refine ht _ σ3 H2 e3 s2.vol _ fun b H3 m3 s3 p3 => ?_
        have x13 := x1'.trans s3.ext
        have x4' := (x4.go s2.ext).go s3.ext
        cases b with
        | true =>
          rw [if_pos rfl] at p3
          refine iteT (p3 _ σ3 H3 (e3.go s3.ext) s3.vol _ fun yv H4 d4 m4 s4 a4 p4 => ?_)
          obtain ⟨hD4, _⟩ := s4.vol.hid Dl xs (by unfold zp; rw [if_pos rfl])
          obtain ⟨v5, e5⟩ := zp_more (ys := xs ++ [yv]) s4.vol
          refine ⟨xs, hD4, by rw [x4.len]; exact Nat.lt_of_lt_of_le (Nat.lt_of_le_of_lt x5 hlt) hz, acc ++ [d4], xs ++ [yv], m4, (x13.trans s4.ext).trans e5, fun a ha => s4.sub a (s3.sub a (s2.sub a (x2 a ha))), v5, ((x4'.go s4.ext).go e5).append (.cons (At.go e5 _ _ a4) .nil), by rw [List.length_append]; exact Nat.succ_le_succ x5, p4⟩
        | false =>
          rw [if_neg Bool.false_ne_true] at p3
          exact iteF ⟨acc, xs, m3, x13, fun a ha => s3.sub a (s2.sub a (x2 a ha)), s3.vol, x4', Nat.le_succ_of_le x5, p3⟩
    · have ei : i = ds.length := by omega
      subst ei
      refine .inl ⟨y.stop _ m' H' x1 x3 (ik _ acc m' x6), ?_⟩
      obtain ⟨hDl', mDl⟩ := x3.hid Dl xs (by unfold zp; rw [if_pos rfl])
      have nD : ¬ mm z m' Dl := fun q => by
        rcases q with q | q
        · exact q mDl
        · exact q zl
      rcases hd with hd | hd
      · exact q _ H' (.lst acc) m' (s.trans ⟨x1.trans zp_ext, x2, zp_off x3 zl⟩) (by unfold At; exact ⟨Dl, xs, rfl, nD, hDl', x4.go zp_ext⟩) (hd acc m' x6)
      · have nm : ¬ dm m Dl := fun qq => nD (.inl (x2 _ (s.sub _ qq)))
        have v6 : Vol z m' H' := zp_off x3 zl
        have e6 : Ext (mm (zp z Dl xs) m') H' (mm z (pt m' Dl (.lst acc))) H' := fun a o h n => ⟨h, fun q => n (zp_mm.mpr (by
          rcases mm_pt.mp q with q | q
          · exact .inr q
          · exact .inl q))⟩
        have e7 : Vol z (pt m' Dl (.lst acc)) H' := by
          refine ⟨fun a c hc => ?_, fun a o ho => ?_⟩
          · by_cases ha : a = Dl
            · subst ha
              rw [pt_same] at hc; cases hc
              exact ⟨xs, hDl', x4.go e6⟩
            · rw [pt_ne ha] at hc
              exact VAt.go e6 (fun _ q => q) (x3.at_ a c hc)
          · have ne : a ≠ Dl := fun q => by rw [q, zl] at ho; cases ho
            obtain ⟨h1, h2⟩ := v6.hid a o ho
            exact ⟨h1, by rw [pt_ne ne]; exact h2⟩
        exact q _ H' (.vol Dl) _ (s.trans ⟨x1.trans e6, fun a ha => dm_pt.mpr (.inr (x2 a ha)), e7⟩) (by unfold At; rfl) (hd acc m' x6 Dl (fun q => nD (.inl q)) nm)
/-- reckoned alone: the items that pass p, each mapped by f -/
theorem ev_lc1 {vs : List Nat} (p : Nat → D → Bool) (f : Nat → D → D) (h : Src r m wi Keep (SIs ds m)) (hK : Keep m)
    (hs : ∀ i d, ds[i]? = some d → ∃ r' is, (∀ k ∈ is, k ∈ vs) ∧ Gd (wipeR r vs) m g d r' is ∧ EvT1 r' m tt (p i d) ∧ (p i d = true → Ev1 r' m te (f i d))) (hl : ds.length ≤ 16777216 := by simp; done) :
    Ev1 r m (tLc wi g tt te vs) (.lst ((ds.zipIdx.filter fun q => p q.2 q.1).map fun q => f q.2 q.1)) := ev_lc h fun ds' m1 q => by
  obtain ⟨rfl, rfl⟩ := q
  refine ⟨fun i acc m' => m' = m1 ∧ acc = ((ds'.take i).zipIdx.filter fun q => p q.2 q.1).map fun q => f q.2 q.1, ⟨rfl, by simp⟩, fun i acc m' q => q.1 ▸ hK, fun i d acc m' hd q => ?_, hl, .inl fun acc m' q => ?_⟩
  · obtain ⟨rfl, rfl⟩ := q
    obtain ⟨r', is, h1, h2, h3, h4⟩ := hs i d hd
    refine ⟨r', is, h1, h2, evt_mono h3 fun b m2 q => ?_⟩
    obtain ⟨rfl, rfl⟩ := q
    have hi : i < ds'.length := (List.getElem?_eq_some_iff.mp hd).1
    have et : (ds'.take (i + 1)).zipIdx = (ds'.take i).zipIdx ++ [(d, i)] := by
      rw [List.take_succ, hd, List.zipIdx_append]
      simp [List.length_take, Nat.min_eq_left (Nat.le_of_lt hi)]
    cases hp : p i d with
    | true =>
      rw [if_pos rfl]
      refine ev_mono (h4 hp) fun y m3 q => ?_
      obtain ⟨rfl, rfl⟩ := q
      refine ⟨rfl, ?_⟩
      rw [et, List.filter_append, List.map_append]
      simp [hp]
    | false =>
      rw [if_neg Bool.false_ne_true]
      refine ⟨rfl, ?_⟩
      rw [et, List.filter_append, List.map_append]
      simp [hp]
  · obtain ⟨rfl, rfl⟩ := q
    refine ⟨?_, rfl⟩
    rw [List.take_length]
end
end DL
/-! DL4: operators, built-ins and methods over plain data. -/
namespace DL
open PySem PySem.Spec PyProof.Rows L2
/-! names for the readings that the layer leaves without one -/
abbrev rAddI : R2 := rI0 fun i j => .int (i + j)
abbrev rSubI : R2 := rI0 fun i j => .int (i - j)
abbrev rModI : R2 := rI (fun _ j => 0 < j) fun i j => .int (i % j)
abbrev rDivN : R2 := rI CDivN fun i j => .int (i.fdiv j)
abbrev rPowI : R2 := rI CPow fun i j => .int (i ^ j.toNat)
abbrev rMulW : R2 := rI CMulW fun i j => .int (i * j)
abbrev rLtI : R2 := rI0 fun i j => .bl (decide (i < j))
abbrev rLeI : R2 := rI0 fun i j => .bl (decide (i ≤ j))
abbrev rGtI : R2 := rI0 fun i j => .bl (decide (j < i))
abbrev rGeI : R2 := rI0 fun i j => .bl (decide (j ≤ i))
abbrev uNegI : V → Hp → VK → Prop := rU fun i => .int (-i)
abbrev rLenS (K : PySem.W.Frag) : List V → Hp → VK → Prop := fun xs H Q => ∃ p ys, xs = [.ref p] ∧ (SqL K H p ys ∨ SqT K H p ys) ∧ Q (.int ys.length) H
abbrev rListOf (K : PySem.W.Frag) : List V → Hp → VK → Prop := fun xs H Q => ∃ p ys, xs = [.ref p] ∧ (SqL K H p ys ∨ SqT K H p ys) ∧ ∀ l, H l = none → Q (.ref l) (upd H l (.lst ys))
abbrev rMax2 : List V → Hp → VK → Prop := fun xs H Q => ∃ i j, xs = [.int i, .int j] ∧ Q (.int (if j > i then j else i)) H
abbrev rMin2 : List V → Hp → VK → Prop := fun xs H Q => ∃ i j, xs = [.int i, .int j] ∧ Q (.int (if j < i then j else i)) H
abbrev rInt1 : List V → Hp → VK → Prop := fun xs H Q => (∃ i, xs = [.int i] ∧ Q (.int i) H) ∨ ∃ k, xs = [.bl k] ∧ Q (.int (if k then 1 else 0)) H
abbrev rListDT : List V → Hp → VK → Prop := fun xs H Q => ∃ d kvs, xs = [V.ref d] ∧ Rd H d (.dT kvs) ∧ ∀ p bs, H p = none → IsKeys H kvs bs → Q (.ref p) (upd H p (.lst (bs.map V.ref)))
section
variable {z : Zs} {m m' : Mu} {H H' : Hp} {i j : Int} {K : PySem.W.Frag} {r : Rho} {te ta tb tc : TE} {d d1 d2 d3 : D} {R : RR} {ds es : List D} {x y v : V} {a l : Addr}
theorem at_int (h : At (mm z m) H (.int i) x) : x = .int i := by unfold At at h; exact h
theorem at_bl {b : Bool} (h : At (mm z m) H (.bl b) x) : x = .bl b := by unfold At at h; exact h
theorem at_str {s : Str} (h : At (mm z m) H (.str s) x) : x = .str s := by unfold At at h; exact h
theorem at_non (h : At (mm z m) H .non x) : x = .non := by unfold At at h; exact h
theorem at_vol (h : At (mm z m) H (.vol a) x) : x = .ref a := by unfold At at h; exact h
theorem at_tup (h : At (mm z m) H (.tup ds) x) : ∃ a xs, x = .ref a ∧ ¬ mm z m a ∧ H a = some (.tup xs) ∧ AtL (mm z m) H ds xs := by unfold At at h; exact h
theorem at_lst (h : At (mm z m) H (.lst ds) x) : ∃ a xs, x = .ref a ∧ ¬ mm z m a ∧ H a = some (.lst xs) ∧ AtL (mm z m) H ds xs := by unfold At at h; exact h
theorem at_dic {kvs} (h : At (mm z m) H (.dic kvs) x) : ∃ a, x = .ref a ∧ ¬ mm z m a ∧ H a = some (.dT (kvs.map kvE)) := by unfold At at h; exact h
theorem mk_int : At (mm z m) H (.int i) (.int i) := by unfold At; rfl
theorem mk_bl {b : Bool} : At (mm z m) H (.bl b) (.bl b) := by unfold At; rfl
theorem mk_str {s : Str} : At (mm z m) H (.str s) (.str s) := by unfold At; rfl
theorem mk_non : At (mm z m) H .non .non := by unfold At; rfl
theorem mk_vol : At (mm z m) H (.vol a) (.ref a) := by unfold At; rfl
theorem mk_tup {xs : List V} (n : ¬ mm z m a) (h : H a = some (.tup xs)) (hl : AtL (mm z m) H ds xs) : At (mm z m) H (.tup ds) (.ref a) := by unfold At; exact ⟨a, xs, rfl, n, h, hl⟩
theorem mk_lst {xs : List V} (n : ¬ mm z m a) (h : H a = some (.lst xs)) (hl : AtL (mm z m) H ds xs) : At (mm z m) H (.lst ds) (.ref a) := by unfold At; exact ⟨a, xs, rfl, n, h, hl⟩
theorem mk_dic {kvs} (n : ¬ mm z m a) (h : H a = some (.dT (kvs.map kvE))) : At (mm z m) H (.dic kvs) (.ref a) := by unfold At; exact ⟨a, rfl, n, h⟩
/-- a new list that stays as it is -/
theorem Res.newF {Q : VK} {xs : List V} {p : Addr} (q : Res z m H R Q) (v : Vol z m H) (hp : H p = none) (a : AtL (mm z m) H ds xs) (hr : R (.lst ds) m) : Q (.ref p) (upd H p (.lst xs)) :=
  q _ _ (.lst ds) m (.new v hp) (mk_lst (v.fresh hp) upd_same (a.go (Stp.new (o := .lst xs) v hp).ext)) hr
theorem Res.newT {Q : VK} {xs : List V} {p : Addr} (q : Res z m H R Q) (v : Vol z m H) (hp : H p = none) (a : AtL (mm z m) H ds xs) (hr : R (.tup ds) m) : Q (.ref p) (upd H p (.tup xs)) :=
  q _ _ (.tup ds) m (.new v hp) (mk_tup (v.fresh hp) upd_same (a.go (Stp.new (o := .tup xs) v hp).ext)) hr
/-! ints -/
theorem o_I0 {g : Int → Int → V} {d : D} (h : ∀ z m H, At (mm z m) H d (g i j)) : Op (rI0 g) m (.int i) (.int j) (Is d m) := fun z H x y v hx hy Q q => ⟨i, j, at_int hx, at_int hy, q.here v (h z m H)⟩
theorem o_I {C : Int → Int → Prop} {g : Int → Int → V} {d : D} (hc : C i j) (h : ∀ z m H, At (mm z m) H d (g i j)) : Op (rI C g) m (.int i) (.int j) (Is d m) := fun z H x y v hx hy Q q => ⟨i, j, at_int hx, at_int hy, hc, q.here v (h z m H)⟩
theorem o_add : Op rAddI m (.int i) (.int j) (Is (.int (i + j)) m) := o_I0 fun _ _ _ => mk_int
theorem o_sub : Op rSubI m (.int i) (.int j) (Is (.int (i - j)) m) := o_I0 fun _ _ _ => mk_int
theorem o_mod (h : 0 < j) : Op rModI m (.int i) (.int j) (Is (.int (i % j)) m) := o_I h fun _ _ _ => mk_int
theorem o_div (h : 0 < j ∧ j < 1073741824) : Op rDivN m (.int i) (.int j) (Is (.int (i / j)) m) := o_I ⟨by omega, by omega⟩ fun _ _ _ => by
  rw [Int.fdiv_eq_ediv_of_nonneg i (by omega)]; exact mk_int
theorem o_pow (h : 0 ≤ j ∧ j ≤ 1000000 ∧ i.natAbs < 2 ^ 64) : Op rPowI m (.int i) (.int j) (Is (.int (i ^ j.toNat)) m) := o_I h fun _ _ _ => mk_int
theorem o_mul (h : CMulW i j) : Op rMulW m (.int i) (.int j) (Is (.int (i * j)) m) := o_I h fun _ _ _ => mk_int
theorem o_lt : Op rLtI m (.int i) (.int j) (Is (.bl (decide (i < j))) m) := o_I0 fun _ _ _ => mk_bl
theorem o_le : Op rLeI m (.int i) (.int j) (Is (.bl (decide (i ≤ j))) m) := o_I0 fun _ _ _ => mk_bl
theorem o_gt : Op rGtI m (.int i) (.int j) (Is (.bl (decide (j < i))) m) := o_I0 fun _ _ _ => mk_bl
theorem o_ge : Op rGeI m (.int i) (.int j) (Is (.bl (decide (j ≤ i))) m) := o_I0 fun _ _ _ => mk_bl
theorem u_neg : Op1 uNegI m (.int i) (Is (.int (-i)) m) := fun z H x v hx Q q => ⟨i, at_int hx, q.here v mk_int⟩
theorem ev_neg {i : Int} (h : Ev1 r m te (.int i)) : Ev1 r m (tUn uNegI te) (.int (-i)) := ev_un h u_neg
/-- a < b < c -/
theorem ev_chain {r1 r2 : R2} {b : Bool} (ha : Ev1 r m ta d1) (hb : Ev1 r m tb d2) (ho : Op r1 m d1 d2 (Is (.bl b) m)) (hc : b = true → Ev1 r m tc d3) (ho2 : b = true → Op r2 m d2 d3 (Is d m)) : Ev1 r m (tChain r1 r2 ta tb tc) (if b = true then d else .bl false) := fun z σ H e v Q q =>
  ha z σ H e v _ fun x H1 _ m1 s1 a1 z1 => by
    obtain ⟨rfl, rfl⟩ := z1
    refine hb z σ H1 (e.go s1.ext) s1.vol _ fun y H2 _ m2 s2 a2 z2 => ?_
    obtain ⟨rfl, rfl⟩ := z2
    refine ho z H2 x y s2.vol (At.go s2.ext _ _ a1) a2 _ fun w H3 _ m3 s3 a3 z3 => ?_
    obtain ⟨rfl, rfl⟩ := z3
    have s13 := (s1.trans s2).trans s3
    refine ⟨b, at_bl a3, ?_⟩
    cases b with
    | true =>
      refine iteT (hc rfl z σ H3 (e.go s13.ext) s3.vol _ fun w2 H4 _ m4 s4 a4 z4 => ?_)
      obtain ⟨rfl, rfl⟩ := z4
      refine ho2 rfl z H4 y w2 s4.vol (At.go (s3.trans s4).ext _ _ a2) a4 Q fun w3 H5 d5 m5 s5 a5 z5 => q w3 H5 d5 m5 ((s13.trans s4).trans s5) a5 z5
    | false => exact iteF (q _ H3 (.bl false) _ s13 mk_bl ⟨rfl, rfl⟩)
theorem ev_chainB {r1 r2 : R2} {b c : Bool} (ha : Ev1 r m ta d1) (hb : Ev1 r m tb d2) (ho : Op r1 m d1 d2 (Is (.bl b) m)) (hc : Ev1 r m tc d3) (ho2 : Op r2 m d2 d3 (Is (.bl c) m)) : Ev1 r m (tChain r1 r2 ta tb tc) (.bl (b && c)) :=
  ev_to (ev_chain ha hb ho (fun _ => hc) fun _ => ho2) (by cases b <;> rfl)
/-! == of scalars, None -/
def scalD : D → D → Bool
  | .non, .non => true | .non, .int _ => true | .int _, .non => true | .non, .str _ => true | .str _, .non => true
  | .int _, .int _ => true | .bl _, .bl _ => true | .str _, .str _ => true
  | .int _, .str _ => true | .str _, .int _ => true
  | _, _ => false
def eqS : D → D → Bool
  | .non, .non => true
  | .int i, .int j => decide (i = j) | .bl b, .bl c => decide (b = c) | .str s, .str t => decide (s = t)
  | _, _ => false
theorem eqS_ok (h : scalD d1 d2 = true) (hx : At (mm z m) H d1 x) (hy : At (mm z m) H d2 y) : scal x y = true ∧ decide (x = y) = eqS d1 d2 := by
  cases d1 <;> cases d2 <;> first | (cases h; done) | (unfold At at hx hy; subst hx; subst hy; refine ⟨rfl, ?_⟩; simp [eqS])
theorem o_eq (h : scalD d1 d2 = true) : Op rEq m d1 d2 (Is (.bl (eqS d1 d2)) m) := fun z H x y v hx hy Q q => by
  obtain ⟨h1, h2⟩ := eqS_ok h hx hy
  exact ⟨h1, by rw [h2]; exact q.here v mk_bl⟩
theorem o_ne (h : scalD d1 d2 = true) : Op rNe m d1 d2 (Is (.bl (!eqS d1 d2)) m) := fun z H x y v hx hy Q q => by
  obtain ⟨h1, h2⟩ := eqS_ok h hx hy
  exact ⟨h1, by rw [h2]; exact q.here v mk_bl⟩
def isNonD : D → Bool
  | .non => true
  | _ => false
theorem non_ok (hx : At (mm z m) H d x) : decide (x = .non) = isNonD d := by
  cases d <;> unfold At at hx
  case non => subst hx; simp [isNonD]
  case tup => obtain ⟨a, _, rfl, _⟩ := hx; simp [isNonD]
  case lst => obtain ⟨a, _, rfl, _⟩ := hx; simp [isNonD]
  case dic => obtain ⟨a, rfl, _⟩ := hx; simp [isNonD]
  all_goals subst hx; simp [isNonD]
theorem ev_isN (h : Ev1 r m te d) : Ev1 r m (tIsN te) (.bl (isNonD d)) := fun z σ H e v Q q => h z σ H e v _ fun x H1 d' m1 s a p => by
  obtain ⟨rfl, rfl⟩ := p
  rw [non_ok a]; exact q _ H1 _ _ s mk_bl ⟨rfl, rfl⟩
theorem ev_notN (h : Ev1 r m te d) : Ev1 r m (tNotN te) (.bl (!isNonD d)) := fun z σ H e v Q q => h z σ H e v _ fun x H1 d' m1 s a p => by
  obtain ⟨rfl, rfl⟩ := p
  rw [non_ok a]; exact q _ H1 _ _ s mk_bl ⟨rfl, rfl⟩
end
/-! == of data -/
mutual
/-- the data of the library -/
def toP : D → PyData
  | .non => .none | .bl b => .bool b | .int i => .int i | .str s => .str s
  | .tup ds => .tuple (toPs ds) | .lst ds => .list (toPs ds)
  | .dic _ => .dict [] | .vol _ => .dict []
def toPs : List D → List PyData
  | [] => [] | d :: ds => toP d :: toPs ds
end
mutual
def pl : D → Bool
  | .non => true | .bl _ => false | .int _ => true | .str s => PyData.canLay0 (.str s) | .tup ds => plL ds | .lst ds => plL ds | .dic _ => false | .vol _ => false
def plL : List D → Bool
  | [] => true | d :: ds => pl d && plL ds
end
mutual
def dpt : D → Nat
  | .tup ds => dptL ds + 1 | .lst ds => dptL ds + 1 | .non => 0 | .bl _ => 0 | .int _ => 0 | .str _ => 0 | .dic _ => 0 | .vol _ => 0
def dptL : List D → Nat
  | [] => 0 | d :: ds => max (dpt d) (dptL ds)
end
mutual
theorem dpt_toP : ∀ d : D, pl d = true → (toP d).depth = dpt d
  | .non, _ => by unfold toP PyData.depth dpt; rfl
  | .bl _, h => by cases h
  | .int _, _ => by unfold toP PyData.depth dpt; rfl
  | .str _, _ => by unfold toP PyData.depth dpt; rfl
  | .dic _, h => by cases h
  | .vol _, h => by cases h
  | .tup ds, h => by unfold toP PyData.depth dpt; rw [dptL_toPs ds (by unfold pl at h; exact h)]
  | .lst ds, h => by unfold toP PyData.depth dpt; rw [dptL_toPs ds (by unfold pl at h; exact h)]
theorem dptL_toPs : ∀ ds : List D, plL ds = true → PyData.depthAll (toPs ds) = dptL ds
  | [], _ => by unfold toPs PyData.depthAll dptL; rfl
  | d :: ds, h => by
    unfold plL at h
    rw [Bool.and_eq_true] at h
    unfold toPs PyData.depthAll dptL
    rw [dpt_toP d h.1, dptL_toPs ds h.2]
end
mutual
theorem can_toP : ∀ d : D, pl d = true → (toP d).canLay0 = true
  | .non, _ => by unfold toP PyData.canLay0; rfl
  | .bl _, h => by cases h
  | .int _, _ => by unfold toP PyData.canLay0; rfl
  | .str _, h => by unfold toP; unfold pl at h; exact h
  | .dic _, h => by cases h
  | .vol _, h => by cases h
  | .tup ds, h => by unfold toP PyData.canLay0; exact canL_toPs ds (by unfold pl at h; exact h)
  | .lst ds, h => by unfold toP PyData.canLay0; exact canL_toPs ds (by unfold pl at h; exact h)
theorem canL_toPs : ∀ ds : List D, plL ds = true → PyData.canLayAll0 (toPs ds) = true
  | [], _ => by unfold toPs PyData.canLayAll0; rfl
  | d :: ds, h => by
    unfold plL at h
    rw [Bool.and_eq_true] at h
    unfold toPs PyData.canLayAll0
    rw [can_toP d h.1, canL_toPs ds h.2]; rfl
end
/-- plain data, not too deep -/
def okD (d : D) : Bool := pl d && decide (dpt d ≤ 64)
theorem okD_shaped {d : D} (h : okD d = true) : SeqAt.shaped (toP d) = true := by
  unfold okD at h
  rw [Bool.and_eq_true, decide_eq_true_eq] at h
  unfold SeqAt.shaped
  rw [can_toP d h.1, dpt_toP d h.1, decide_eq_true h.2]; rfl
mutual
theorem eqv_iff : ∀ d e : D, pl d = true → pl e = true → (PyData.eqv (toP d) (toP e) = true ↔ d = e)
  | .bl _, _, h, _ => by cases h
  | .dic _, _, h, _ => by cases h
  | .vol _, _, h, _ => by cases h
  | .non, e, _, he => by cases e <;> first | (cases he; done) | simp [toP, PyData.eqv]
  | .int i, e, _, he => by cases e <;> first | (cases he; done) | simp [toP, PyData.eqv]
  | .str i, e, _, he => by cases e <;> first | (cases he; done) | simp [toP, PyData.eqv]
  | .tup ds, e, hd, he => by
    cases e with
    | tup es =>
      unfold pl at hd he
      have := eqvL_iff ds es hd he
      unfold toP
      rw [PyData.eqv, this]
      simp
    | bl _ => cases he
    | dic _ => cases he
    | vol _ => cases he
    | non => simp [toP, PyData.eqv]
    | int _ => simp [toP, PyData.eqv]
    | str _ => simp [toP, PyData.eqv]
    | lst _ => simp [toP, PyData.eqv]
  | .lst ds, e, hd, he => by
    cases e with
    | lst es =>
      unfold pl at hd he
      have := eqvL_iff ds es hd he
      unfold toP
      rw [PyData.eqv, this]
      simp
    | bl _ => cases he
    | dic _ => cases he
    | vol _ => cases he
    | non => simp [toP, PyData.eqv]
    | int _ => simp [toP, PyData.eqv]
    | str _ => simp [toP, PyData.eqv]
    | tup _ => simp [toP, PyData.eqv]
theorem eqvL_iff : ∀ ds es : List D, plL ds = true → plL es = true → (PyData.eqvAll (toPs ds) (toPs es) = true ↔ ds = es)
  | [], [], _, _ => by simp [toPs, PyData.eqvAll]
  | [], _ :: _, _, _ => by simp [toPs, PyData.eqvAll]
  | _ :: _, [], _, _ => by simp [toPs, PyData.eqvAll]
  | d :: ds, e :: es, hd, he => by
    unfold plL at hd he
    rw [Bool.and_eq_true] at hd he
    simp only [toPs, PyData.eqvAll, Bool.and_eq_true]
    rw [eqv_iff d e hd.1 he.1, eqvL_iff ds es hd.2 he.2]
    simp
end
mutual
theorem dp_of {K : PySem.W.Frag} {M : Addr → Prop} {H : Hp} : ∀ (d : D) (x : V), pl d = true → At M H d x → Dp K H x (toP d)
  | .non, x, _, h => by unfold At at h; subst h; unfold toP; exact .non
  | .int i, x, _, h => by unfold At at h; subst h; unfold toP; exact .int i
  | .str i, x, _, h => by unfold At at h; subst h; unfold toP; exact .str i
  | .bl _, _, h, _ => by cases h
  | .dic _, _, h, _ => by cases h
  | .vol _, _, h, _ => by cases h
  | .tup ds, x, p, h => by
    unfold At at h
    obtain ⟨a, xs, rfl, _, ha, hl⟩ := h
    unfold toP
    exact .tup (.of ha) (dpL_of ds xs (by unfold pl at p; exact p) hl)
  | .lst ds, x, p, h => by
    unfold At at h
    obtain ⟨a, xs, rfl, _, ha, hl⟩ := h
    unfold toP
    exact .lst (.of ha) (dpL_of ds xs (by unfold pl at p; exact p) hl)
theorem dpL_of {K : PySem.W.Frag} {M : Addr → Prop} {H : Hp} : ∀ (ds : List D) (xs : List V), plL ds = true → AtL M H ds xs → DpAll K H xs (toPs ds)
  | [], _, _, h => by rw [h.inv0]; unfold toPs; exact .nil
  | d :: ds, _, p, h => by
    obtain ⟨v, vs, rfl, h1, h2⟩ := h.inv
    unfold plL at p
    rw [Bool.and_eq_true] at p
    unfold toPs
    exact .cons (dp_of d v p.1 h1) (dpL_of ds vs p.2 h2)
end
section
variable {z : Zs} {m m' : Mu} {H H' : Hp} {i j : Int} {K : PySem.W.Frag} {r : Rho} {te ta tb tc : TE} {d d1 d2 d3 : D} {R : RR} {ds es : List D} {x y v : V} {a l : Addr} {b : Bool}
theorem okD_pl {d : D} (h : okD d = true) : pl d = true := by
  unfold okD at h
  rw [Bool.and_eq_true] at h
  exact h.1
theorem eqv_is {d e : D} (h1 : okD d = true) (h2 : okD e = true) (hb : b = true ↔ d = e) : PyData.eqv (toP d) (toP e) = b := by
  rw [Bool.eq_iff_iff, eqv_iff d e (okD_pl h1) (okD_pl h2), hb]
theorem o_eqD (h1 : okD d1 = true) (h2 : okD d2 = true) (hb : b = true ↔ d1 = d2) : Op (rEqD K) m d1 d2 (Is (.bl b) m) := fun z H x y v hx hy Q q =>
  ⟨toP d1, toP d2, dp_of d1 x (okD_pl h1) hx, dp_of d2 y (okD_pl h2) hy, okD_shaped h1, okD_shaped h2, by rw [eqv_is h1 h2 hb]; exact q.here v mk_bl⟩
theorem o_neD (h1 : okD d1 = true) (h2 : okD d2 = true) (hb : b = false ↔ d1 = d2) : Op (rNeD K) m d1 d2 (Is (.bl b) m) := fun z H x y v hx hy Q q =>
  ⟨toP d1, toP d2, dp_of d1 x (okD_pl h1) hx, dp_of d2 y (okD_pl h2) hy, okD_shaped h1, okD_shaped h2, by
    rw [eqv_is (b := !b) h1 h2 (by rw [← hb]; cases b <;> decide), Bool.not_not]; exact q.here v mk_bl⟩
/-- a changing list against a written one -/
theorem dp_vol (v : Vol z m H) (hl : m l = some (.lst ds)) (h : pl (.lst ds) = true) (hx : At (mm z m) H (.vol l) x) : Dp K H x (toP (.lst ds)) := by
  obtain ⟨xs, h1, h2⟩ := v.at_ l _ hl
  rw [at_vol hx]
  unfold toP
  exact .lst (.of h1) (dpL_of ds xs (by unfold pl at h; exact h) h2)
theorem o_eqV (hl : m l = some (.lst ds)) (h1 : okD (.lst ds) = true) (h2 : okD d2 = true) (hb : b = true ↔ D.lst ds = d2) : Op (rEqD K) m (.vol l) d2 (Is (.bl b) m) := fun z H x y v hx hy Q q =>
  ⟨toP (.lst ds), toP d2, dp_vol v hl (okD_pl h1) hx, dp_of d2 y (okD_pl h2) hy, okD_shaped h1, okD_shaped h2, by rw [eqv_is h1 h2 hb]; exact q.here v mk_bl⟩
theorem o_neV (hl : m l = some (.lst ds)) (h1 : okD (.lst ds) = true) (h2 : okD d2 = true) (hb : b = false ↔ D.lst ds = d2) : Op (rNeD K) m (.vol l) d2 (Is (.bl b) m) := fun z H x y v hx hy Q q =>
  ⟨toP (.lst ds), toP d2, dp_vol v hl (okD_pl h1) hx, dp_of d2 y (okD_pl h2) hy, okD_shaped h1, okD_shaped h2, by
    rw [eqv_is (b := !b) h1 h2 (by rw [← hb]; cases b <;> decide), Bool.not_not]; exact q.here v mk_bl⟩
theorem toPs_map : ∀ ds : List D, toPs ds = ds.map toP
  | [] => by unfold toPs; rfl
  | d :: ds => by unfold toPs; rw [toPs_map ds]; rfl
theorem any_eqv {d : D} {ds : List D} (h1 : okD d = true) (h2 : okD (.lst ds) = true) (hb : b = true ↔ d ∈ ds) : ((toPs ds).any fun z => PyData.eqv z (toP d)) = b := by
  have hp := okD_pl h2
  unfold pl at hp
  rw [Bool.eq_iff_iff, hb, toPs_map, List.any_map, List.any_eq_true]
  have mem : ∀ (ds : List D) (e : D), plL ds = true → e ∈ ds → pl e = true := fun ds => by
    induction ds with
    | nil => intro e _ h; cases h
    | cons a t ih =>
      intro e h hm
      unfold plL at h
      rw [Bool.and_eq_true] at h
      rcases List.mem_cons.mp hm with rfl | hm
      · exact h.1
      · exact ih e h.2 hm
  constructor
  · rintro ⟨e, he, hv⟩
    have := (eqv_iff e d (mem ds e hp he) (okD_pl h1)).mp hv
    exact this ▸ he
  · intro hd
    exact ⟨d, hd, (eqv_iff d d (okD_pl h1) (okD_pl h1)).mpr rfl⟩
theorem o_inD (h1 : okD d1 = true) (h2 : okD (.lst ds) = true) (hb : b = true ↔ d1 ∈ ds) : Op (rInD K) m d1 (.lst ds) (Is (.bl b) m) := fun z H x y v hx hy Q q => by
  have hd := dp_of (K := K) (.lst ds) y (okD_pl h2) hy
  have hs := okD_shaped h2
  unfold toP at hd hs
  exact ⟨toP d1, toPs ds, dp_of d1 x (okD_pl h1) hx, hd, okD_shaped h1, hs, by rw [any_eqv h1 h2 hb]; exact q.here v mk_bl⟩
theorem o_notInD (h1 : okD d1 = true) (h2 : okD (.lst ds) = true) (hb : b = false ↔ d1 ∈ ds) : Op (rNotInD K) m d1 (.lst ds) (Is (.bl b) m) := fun z H x y v hx hy Q q => by
  have hd := dp_of (K := K) (.lst ds) y (okD_pl h2) hy
  have hs := okD_shaped h2
  unfold toP at hd hs
  exact ⟨toP d1, toPs ds, dp_of d1 x (okD_pl h1) hx, hd, okD_shaped h1, hs, by
    rw [any_eqv (b := !b) h1 h2 (by rw [← hb]; cases b <;> decide), Bool.not_not]; exact q.here v mk_bl⟩
end
end DL
/-! DL5: lists, tuples, dicts over plain data. -/
namespace DL
open PySem PySem.Spec PyProof.Rows L2
section
variable {z : Zs} {m m' : Mu} {H H' : Hp} {i j : Int} {K : PySem.W.Frag} {r : Rho} {te ta tb tc : TE} {d d1 d2 d3 : D} {R : RR} {ds es : List D} {x y v : V} {a l : Addr} {b : Bool}
/-! items, lengths -/
theorem at_ix {M : Addr → Prop} {xs : List V} (h : AtL M H ds xs) (e : atI ds i = some d) : ∃ v, atI xs i = some v ∧ At M H d v := by
  unfold atI at e ⊢
  rw [h.len]
  cases q : ixN ds.length i with
  | none => rw [q] at e; cases e
  | some k =>
    rw [q] at e
    exact h.get (show ds[k]? = some d from e)
theorem o_ixT (h : atI ds i = some d) : Op (rIxT K) m (.tup ds) (.int i) (Is d m) := fun z H x y v hx hy Q q => by
  obtain ⟨a, xs, rfl, n, ha, hl⟩ := at_tup hx
  obtain ⟨w, h1, h2⟩ := at_ix hl h
  exact ⟨a, xs, i, w, rfl, at_int hy, .of ha, h1, q.here v h2⟩
theorem o_ixL (h : atI ds i = some d) : Op (rIxL K) m (.lst ds) (.int i) (Is d m) := fun z H x y v hx hy Q q => by
  obtain ⟨a, xs, rfl, n, ha, hl⟩ := at_lst hx
  obtain ⟨w, h1, h2⟩ := at_ix hl h
  exact ⟨a, xs, i, w, rfl, at_int hy, .of ha, h1, q.here v h2⟩
theorem o_ixV (hm : m l = some (.lst ds)) (h : atI ds i = some d) : Op (rIxL K) m (.vol l) (.int i) (Is d m) := fun z H x y v hx hy Q q => by
  obtain ⟨xs, ha, hl⟩ := v.at_ l _ hm
  obtain ⟨w, h1, h2⟩ := at_ix hl h
  exact ⟨l, xs, i, w, at_vol hx, at_int hy, .of ha, h1, q.here v h2⟩
theorem atI_n {α : Type} {xs : List α} {n : Nat} {v : α} (h : xs[n]? = some v) : atI xs (n : Int) = some v := atI_nat h
theorem atI_m1 {α : Type} {xs : List α} {v : α} (h : xs.getLast? = some v) : atI xs (-1) = some v := by
  obtain ⟨ys, rfl⟩ := List.getLast?_eq_some_iff.mp h
  exact atI_last ys v
theorem c_lenT : OpL (rLenS K) m [.tup ds] (Is (.int (ds.length : Nat)) m) := fun z H vs v a Q q => by
  obtain ⟨x, t, rfl, h1, h2⟩ := a.inv
  obtain rfl := h2.inv0
  obtain ⟨p, xs, rfl, n, hp, hl⟩ := at_tup h1
  exact ⟨p, xs, rfl, .inr (.of hp), by rw [hl.len]; exact q.here v mk_int⟩
theorem c_lenL : OpL (rLenS K) m [.lst ds] (Is (.int (ds.length : Nat)) m) := fun z H vs v a Q q => by
  obtain ⟨x, t, rfl, h1, h2⟩ := a.inv
  obtain rfl := h2.inv0
  obtain ⟨p, xs, rfl, n, hp, hl⟩ := at_lst h1
  exact ⟨p, xs, rfl, .inl (.of hp), by rw [hl.len]; exact q.here v mk_int⟩
theorem c_lenV (hm : m l = some (.lst ds)) : OpL (rLenS K) m [.vol l] (Is (.int (ds.length : Nat)) m) := fun z H vs v a Q q => by
  obtain ⟨x, t, rfl, h1, h2⟩ := a.inv
  obtain rfl := h2.inv0
  obtain ⟨xs, hp, hl⟩ := v.at_ l _ hm
  exact ⟨l, xs, by rw [at_vol h1], .inl (.of hp), by rw [hl.len]; exact q.here v mk_int⟩
theorem c_lenD {kvs} : OpL rLenT m [.dic kvs] (Is (.int (kvs.length : Nat)) m) := fun z H vs v a Q q => by
  obtain ⟨x, t, rfl, h1, h2⟩ := a.inv
  obtain rfl := h2.inv0
  obtain ⟨p, rfl, n, hp⟩ := at_dic h1
  exact ⟨p, _, rfl, hp, by rw [List.length_map]; exact q.here v mk_int⟩
theorem args2 {M : Addr → Prop} {vs : List V} (a : AtL M H [.int i, .int j] vs) : vs = [.int i, .int j] := by
  obtain ⟨x, t, rfl, h1, h2⟩ := a.inv
  obtain ⟨y, u, rfl, h3, h4⟩ := h2.inv
  obtain rfl := h4.inv0
  unfold At at h1 h3
  rw [h1, h3]
theorem c_max : OpL rMax2 m [.int i, .int j] (Is (.int (max i j)) m) := fun z H vs v a Q q => ⟨i, j, args2 a, by
  have e : (if j > i then j else i) = max i j := by split <;> omega
  rw [e]; exact q.here v mk_int⟩
theorem c_min : OpL rMin2 m [.int i, .int j] (Is (.int (min i j)) m) := fun z H vs v a Q q => ⟨i, j, args2 a, by
  have e : (if j < i then j else i) = min i j := by split <;> omega
  rw [e]; exact q.here v mk_int⟩
theorem c_intB : OpL rInt1 m [.bl b] (Is (.int (if b = true then 1 else 0)) m) := fun z H vs v a Q q => by
  obtain ⟨x, t, rfl, h1, h2⟩ := a.inv
  obtain rfl := h2.inv0
  exact .inr ⟨b, by rw [at_bl h1], q.here v mk_int⟩
theorem at_bls {M : Addr → Prop} : ∀ {bs : List Bool} {xs : List V}, AtL M H (bs.map D.bl) xs → xs = bs.map V.bl
  | [], _, h => h.inv0
  | b :: bs, _, h => by
    obtain ⟨x, t, rfl, h1, h2⟩ := h.inv
    have e : x = .bl b := by unfold At at h1; exact h1
    rw [e, at_bls h2]; rfl
theorem at_ints {M : Addr → Prop} : ∀ {is : List Int} {xs : List V}, AtL M H (is.map D.int) xs → xs = is.map V.int
  | [], _, h => h.inv0
  | i :: is, _, h => by
    obtain ⟨x, t, rfl, h1, h2⟩ := h.inv
    have e : x = .int i := by unfold At at h1; exact h1
    rw [e, at_ints h2]; rfl
theorem mk_ints {M : Addr → Prop} : ∀ {is : List Int}, AtL M H (is.map D.int) (is.map V.int)
  | [] => .nil
  | i :: is => .cons (by unfold At; rfl) mk_ints
theorem c_all {bs : List Bool} (h : ds = bs.map D.bl) : OpL (rAll K) m [.lst ds] (Is (.bl (bs.all id)) m) := fun z H vs v a Q q => by
  obtain ⟨x, t, rfl, h1, h2⟩ := a.inv
  obtain rfl := h2.inv0
  obtain ⟨p, xs, rfl, n, hp, hl⟩ := at_lst h1
  rw [h] at hl
  exact ⟨p, bs, rfl, .of (by rw [hp, at_bls hl]), q.here v mk_bl⟩
/-! in, of ints -/
theorem inV_ints {is : List Int} : inV (.int i) (is.map V.int) = decide (i ∈ is) := by
  unfold inV
  rw [List.any_map, Bool.eq_iff_iff, List.any_eq_true, decide_eq_true_eq]
  constructor
  · rintro ⟨j, hj, e⟩
    have : j = i := by simpa [eqV] using e
    exact this ▸ hj
  · intro h
    exact ⟨i, h, by simp [eqV]⟩
theorem flat_ints {is : List Int} : (is.map V.int).all flatV = true := by
  rw [List.all_map]
  exact List.all_eq_true.mpr fun _ _ => rfl
theorem o_inT {is : List Int} (h : ds = is.map D.int) : Op (rIn K false) m (.int i) (.tup ds) (Is (.bl (decide (i ∈ is))) m) := fun z H x y v hx hy Q q => by
  obtain ⟨a, xs, rfl, n, ha, hl⟩ := at_tup hy
  rw [h] at hl
  rw [at_ints hl] at ha
  rw [at_int hx]
  refine ⟨a, _, rfl, .inr (.of ha), rfl, flat_ints, ?_⟩
  rw [if_neg Bool.false_ne_true, inV_ints]
  exact q.here v mk_bl
theorem o_notInT {is : List Int} (h : ds = is.map D.int) : Op (rIn K true) m (.int i) (.tup ds) (Is (.bl (!decide (i ∈ is))) m) := fun z H x y v hx hy Q q => by
  obtain ⟨a, xs, rfl, n, ha, hl⟩ := at_tup hy
  rw [h] at hl
  rw [at_ints hl] at ha
  rw [at_int hx]
  refine ⟨a, _, rfl, .inr (.of ha), rfl, flat_ints, ?_⟩
  rw [if_pos rfl, inV_ints]
  exact q.here v mk_bl
/-! new lists, tuples from others -/
theorem c_listT (k : R = Is (.lst ds) m ∨ R = NewV (.lst ds) m) : OpL (rListOf K) m [.tup ds] R := fun z H vs v a Q q => by
  obtain ⟨x, t, rfl, h1, h2⟩ := a.inv
  obtain rfl := h2.inv0
  obtain ⟨p, xs, rfl, n, hp, hl⟩ := at_tup h1
  refine ⟨p, xs, rfl, .inr (.of hp), fun l nl => ?_⟩
  rcases k with rfl | rfl
  · exact q.newF v nl hl ⟨rfl, rfl⟩
  · exact Res.newL q (.refl v) nl hl
theorem ev_tupleL (h : Ev1 r m te (.lst ds)) : Ev1 r m (tThen te (kTup K)) (.tup ds) := fun z σ H e v Q q => h z σ H e v _ fun x H1 d' m1 s a p => by
  obtain ⟨rfl, rfl⟩ := p
  obtain ⟨a', xs, rfl, n, ha, hl⟩ := at_lst a
  exact .inl ⟨a', xs, rfl, .of ha, fun p np => (q.from s).newT s.vol np hl ⟨rfl, rfl⟩⟩
theorem ev_tupleV (h : Ev1 r m te (.vol l)) (hm : m l = some (.lst ds)) : Ev1 r m (tThen te (kTup K)) (.tup ds) := fun z σ H e v Q q => h z σ H e v _ fun x H1 d' m1 s a p => by
  obtain ⟨rfl, rfl⟩ := p
  obtain ⟨xs, ha, hl⟩ := s.vol.at_ l _ hm
  exact .inl ⟨l, xs, at_vol a, .of ha, fun p np => (q.from s).newT s.vol np hl ⟨rfl, rfl⟩⟩
/-- of whatever list comes -/
theorem ev_tupleR {R1 : RR} (h : Ev r m te R1) (k : ∀ d m1, R1 d m1 → ∃ ds, (d = .lst ds ∨ ∃ l, d = .vol l ∧ m1 l = some (.lst ds)) ∧ R (.tup ds) m1) : Ev r m (tThen te (kTup K)) R := fun z σ H e v Q q => h z σ H e v _ fun x H1 d' m1 s a p => by
  obtain ⟨ds, hd, hr⟩ := k d' m1 p
  rcases hd with rfl | ⟨l, rfl, hm⟩
  · obtain ⟨a', xs, rfl, n, ha, hl⟩ := at_lst a
    exact .inl ⟨a', xs, rfl, .of ha, fun p np => (q.from s).newT s.vol np hl hr⟩
  · obtain ⟨xs, ha, hl⟩ := s.vol.at_ l _ hm
    exact .inl ⟨l, xs, at_vol a, .of ha, fun p np => (q.from s).newT s.vol np hl hr⟩
theorem mk_rng {M : Addr → Prop} {n : Int} : AtL M H (rngD 0 n.toNat) (rgV 0 n) := by
  unfold rngD rgV
  rw [Int.sub_zero]
  refine AtL.of_get (by simp) fun k d v h1 h2 => ?_
  rw [List.getElem?_map] at h1 h2
  cases e : (List.range n.toNat)[k]? with
  | none => rw [e] at h1; cases h1
  | some c =>
    rw [e] at h1 h2
    cases h1; cases h2
    unfold At; rfl
theorem ev_listRg {n : Int} (h : Ev1 r m te (.int n)) (hn : -1000 ≤ n ∧ n ≤ 1000000) (k : R = Is (.lst (rngD 0 n.toNat)) m ∨ R = NewV (.lst (rngD 0 n.toNat)) m) : Ev r m (tLstRg (tRg1 te)) R := fun z σ H e v Q q => h z σ H e v _ fun x H1 d' m1 s a p => by
  obtain ⟨rfl, rfl⟩ := p
  refine ⟨n, at_int a, by unfold RgOk; omega, fun p np => ?_⟩
  rcases k with rfl | rfl
  · exact (q.from s).newF s.vol np mk_rng ⟨rfl, rfl⟩
  · exact Res.newL q s np mk_rng
/-! isinstance -/
def dTy : D → Option String
  | .non => some "NoneType" | .bl _ => some "bool" | .int _ => some "int" | .str _ => some "str" | .tup _ => some "tuple" | .lst _ => some "list" | .dic _ => some "dict" | .vol _ => none
theorem ev_isi {t u : String} (h : Ev1 r m te d) (hd : dTy d = some t) (hk : kitB t u = some b) : Ev1 r m (tCB (rIsi K) (tCons te (tCons (tC (.ty u)) tNil))) (.bl b) := fun z σ H e v Q q => h z σ H e v _ fun x H1 d' m1 s a p => by
  obtain ⟨rfl, rfl⟩ := p
  have ty : TyX K H1 x (.type t) := by
    cases d' <;> cases hd
    case non => rw [at_non a]; exact .base .non
    case bl => rw [at_bl a]; exact .base (.bl _)
    case int => rw [at_int a]; exact .base (.int _)
    case str => rw [at_str a]; exact .base (.str _)
    case tup => obtain ⟨p, xs, rfl, _, hp, _⟩ := at_tup a; exact .base (.tup hp)
    case lst => obtain ⟨p, xs, rfl, _, hp, _⟩ := at_lst a; exact .base (.lst hp)
    case dic => obtain ⟨p, rfl, _, hp⟩ := at_dic a; exact .base (.dT hp)
  exact ⟨x, .ty u, .type t, .type u, b, rfl, .ty u, ty, kit_ty hk, q _ H1 _ m1 s mk_bl ⟨rfl, rfl⟩⟩
/-! slices, sums -/
def cutD (xs : List D) (lo hi : Option Int) : List D := (xs.drop (HT.sIx xs.length 0 lo)).take (HT.sIx xs.length xs.length hi - HT.sIx xs.length 0 lo)
theorem cut_at {M : Addr → Prop} {xs : List V} (h : AtL M H ds xs) (lo hi : Option Int) : AtL M H (cutD ds lo hi) (cutV xs lo hi) := by
  unfold cutD cutV
  rw [h.len]
  exact (h.drop _).take _
def EvO (r : Rho) (m : Mu) (to : TO) (o : Option Int) : Prop := ∀ z σ H, EnvR (mm z m) H r σ → Vol z m H → ∀ Q : Option Int → Hp → Prop, (∀ H2, Stp z m H m H2 → Q o H2) → to σ H Q
theorem evo_none : EvO r m tNoPart none := fun z σ H e v Q q => q H (.refl v)
theorem evo_some (h : Ev1 r m te (.int i)) : EvO r m (tPart te) (some i) := fun z σ H e v Q q => h z σ H e v _ fun x H1 d' m1 s a p => by
  obtain ⟨rfl, rfl⟩ := p
  exact ⟨i, at_int a, q H1 s⟩
theorem ev_sl {o : V → Option Int → Option Int → Hp → VK → Prop} {tl th : TO} {lo hi : Option Int} (h : Ev1 r m te d) (h1 : EvO r m tl lo) (h2 : EvO r m th hi) (ho : ∀ z H x, Vol z m H → At (mm z m) H d x → ∀ Q, Res z m H R Q → o x lo hi H Q) : Ev r m (tSl o te tl th) R := fun z σ H e v Q q =>
  h z σ H e v _ fun x H1 d' m1 s a p => by
    obtain ⟨rfl, rfl⟩ := p
    exact h1 z σ H1 (e.go s.ext) s.vol _ fun H2 s2 => h2 z σ H2 ((e.go s.ext).go s2.ext) s2.vol _ fun H3 s3 => ho z H3 x s3.vol (At.go (s2.trans s3).ext _ _ a) Q (q.from ((s.trans s2).trans s3))
theorem ev_slL {tl th : TO} {lo hi : Option Int} (h : Ev1 r m te (.lst ds)) (h1 : EvO r m tl lo) (h2 : EvO r m th hi) : Ev1 r m (tSl (rSlL K) te tl th) (.lst (cutD ds lo hi)) := ev_sl h h1 h2 fun z H x v a Q q => by
  obtain ⟨p, xs, rfl, n, hp, hl⟩ := at_lst a
  exact ⟨p, xs, rfl, .of hp, fun p np => q.newF v np (cut_at hl lo hi) ⟨rfl, rfl⟩⟩
theorem ev_slV {tl th : TO} {lo hi : Option Int} (h : Ev1 r m te (.vol l)) (hm : m l = some (.lst ds)) (h1 : EvO r m tl lo) (h2 : EvO r m th hi) : Ev1 r m (tSl (rSlL K) te tl th) (.lst (cutD ds lo hi)) := ev_sl h h1 h2 fun z H x v a Q q => by
  obtain ⟨xs, hp, hl⟩ := v.at_ l _ hm
  exact ⟨l, xs, at_vol a, .of hp, fun p np => q.newF v np (cut_at hl lo hi) ⟨rfl, rfl⟩⟩
theorem ev_slT {tl th : TO} {lo hi : Option Int} (h : Ev1 r m te (.tup ds)) (h1 : EvO r m tl lo) (h2 : EvO r m th hi) : Ev1 r m (tSl (rSlA K) te tl th) (.tup (cutD ds lo hi)) := ev_sl h h1 h2 fun z H x v a Q q => by
  obtain ⟨p, xs, rfl, n, hp, hl⟩ := at_tup a
  have hc := cut_at hl lo hi
  refine ⟨p, xs, rfl, .of hp, fun c => ?_, fun c p np => q.newT v np hc ⟨rfl, rfl⟩⟩
  have e : cutD ds lo hi = ds := by
    unfold cutD
    rw [← hl.len, c.1, c.2, List.drop_zero, hl.len, Nat.sub_zero, List.take_length]
  rw [e] at q
  exact q.here v (mk_tup n hp hl)
theorem ev_revL {R1 : RR} (h : Ev r m te R1) (k : ∀ d m1, R1 d m1 → ∃ ds, d = .lst ds ∧ R (.lst ds.reverse) m1) : Ev r m (tRevL K te) R := fun z σ H e v Q q => h z σ H e v _ fun x H1 d' m1 s a p => by
  obtain ⟨ds, rfl, hr⟩ := k d' m1 p
  obtain ⟨p, xs, rfl, n, hp, hl⟩ := at_lst a
  exact ⟨p, xs, rfl, .of hp, fun p np => (q.from s).newF s.vol np hl.reverse hr⟩
/-- what a list's value may be -/
def LV (m : Mu) (d : D) (ds : List D) : Prop := d = .lst ds ∨ ∃ l, d = .vol l ∧ m l = some (.lst ds)
theorem lv_at (h : LV m d ds) (v : Vol z m H) (a : At (mm z m) H d x) : ∃ p xs, x = .ref p ∧ H p = some (.lst xs) ∧ AtL (mm z m) H ds xs := by
  rcases h with rfl | ⟨l, rfl, hm⟩
  · obtain ⟨p, xs, rfl, n, hp, hl⟩ := at_lst a
    exact ⟨p, xs, rfl, hp, hl⟩
  · obtain ⟨xs, hp, hl⟩ := v.at_ l _ hm
    exact ⟨l, xs, at_vol a, hp, hl⟩
theorem o_cat (h1 : LV m d1 ds) (h2 : LV m d2 es) (hz : ds.length + es.length ≤ 16777216) (k : R = Is (.lst (ds ++ es)) m ∨ R = NewV (.lst (ds ++ es)) m) : Op rCat m d1 d2 R := fun z H x y v hx hy Q q => by
  obtain ⟨p, xs, rfl, hp, hl⟩ := lv_at h1 v hx
  obtain ⟨p2, ys, rfl, hp2, hl2⟩ := lv_at h2 v hy
  refine ⟨p, p2, xs, ys, rfl, rfl, hp, hp2, by rw [hl.len, hl2.len]; exact hz, fun l nl => ?_⟩
  rcases k with rfl | rfl
  · exact q.newF v nl (hl.append hl2) ⟨rfl, rfl⟩
  · exact Res.newL q (.refl v) nl (hl.append hl2)
theorem o_catT (hz : ds.length + es.length ≤ 16777216) : Op (rCatA K) m (.tup ds) (.tup es) (Is (.tup (ds ++ es)) m) := fun z H x y v hx hy Q q => by
  obtain ⟨p, xs, rfl, n, hp, hl⟩ := at_tup hx
  obtain ⟨p2, ys, rfl, n2, hp2, hl2⟩ := at_tup hy
  refine ⟨p, p2, xs, ys, rfl, rfl, .of hp, .of hp2, by rw [hl.len, hl2.len]; exact hz, fun e => ?_, fun e1 e2 => ?_, fun e1 e2 l nl => q.newT v nl (hl.append hl2) ⟨rfl, rfl⟩⟩
  · have : ds = [] := List.length_eq_zero_iff.mp (by rw [← hl.len, e]; rfl)
    subst this
    exact q.here v (mk_tup n2 hp2 hl2)
  · have : es = [] := List.length_eq_zero_iff.mp (by rw [← hl2.len, e2]; rfl)
    subst this
    rw [List.append_nil] at q
    exact q.here v (mk_tup n hp hl)
theorem rep_at {M : Addr → Prop} {xs : List V} (h : AtL M H ds xs) : ∀ n : Nat, AtL M H (List.replicate n ds).flatten (List.replicate n xs).flatten
  | 0 => .nil
  | n + 1 => by
    rw [List.replicate_succ, List.replicate_succ, List.flatten_cons, List.flatten_cons]
    exact h.append (rep_at h n)
theorem o_rep (h1 : LV m d1 ds) (hk : 0 ≤ i ∧ i ≤ 1000) (hz : ds.length * i.toNat ≤ 16777216) : Op rRep m d1 (.int i) (Is (.lst (List.replicate i.toNat ds).flatten) m) := fun z H x y v hx hy Q q => by
  obtain ⟨p, xs, rfl, hp, hl⟩ := lv_at h1 v hx
  exact ⟨p, i, xs, rfl, at_int hy, hp, by omega, by omega, by rw [hl.len]; exact hz, fun l nl => q.newF v nl (rep_at hl _) ⟨rfl, rfl⟩⟩
/-! methods of a changing list -/
theorem tyV_l {p : Addr} {xs : List V} (h : H p = some (.lst xs)) : tyV K "list" (.ref p) H := .inl ⟨rfl, xs, .of h⟩
theorem ev_append {R1 : RR} {ds0 : List D} (ha : Ev1 r m ta (.vol l)) (hm : m l = some (.lst ds0)) (h : Ev r m te R1) (k : ∀ d m1, R1 d m1 → ∃ ds, m1 l = some (.lst ds) ∧ ds.length < 16777216 ∧ R .non (pt m1 l (.lst (ds ++ [d])))) : Ev r m (tBM K "list" rAppend ta (tCons te tNil)) R := fun z σ H e v Q q =>
  ha z σ H e v _ fun x H1 _ m0 s a p => by
    obtain ⟨rfl, rfl⟩ := p
    have ex := at_vol a
    subst ex
    obtain ⟨xs, h1, _⟩ := s.vol.at_ l _ hm
    refine ⟨tyV_l h1, h z σ H1 (e.go s.ext) s.vol _ fun y H2 d m1 s2 a2 p2 => ?_⟩
    obtain ⟨ds, e2, hz, hr⟩ := k d m1 p2
    obtain ⟨ys, h2, hl⟩ := s2.vol.at_ l _ e2
    refine ⟨l, ys, y, rfl, rfl, h2, by rw [hl.len]; exact hz, ?_⟩
    have s3 : Stp z m1 H2 (pt m1 l (.lst (ds ++ [d]))) (upd H2 l (.lst (ys ++ [y]))) := .put s2.vol (dm_of e2) fun ex => ⟨_, upd_same, (hl.go ex).append (.cons (At.go ex _ _ a2) .nil)⟩
    exact q .non _ .non _ ((s.trans s2).trans s3) mk_non hr
/-- append of what is reckoned alone -/
theorem ev_append1 (ha : Ev1 r m ta (.vol l)) (hm : m l = some (.lst ds)) (h : Ev1 r m te d) (hz : ds.length < 16777216) : Ev r m (tBM K "list" rAppend ta (tCons te tNil)) (Is .non (pt m l (.lst (ds ++ [d])))) :=
  ev_append ha hm h fun d' m1 p => by obtain ⟨rfl, rfl⟩ := p; exact ⟨ds, hm, hz, rfl, rfl⟩
theorem ev_pop (ha : Ev1 r m ta (.vol l)) (hm : m l = some (.lst ds)) (hd : ds.getLast? = some d) : Ev r m (tBM0 K "list" rPop ta) (Is d (pt m l (.lst ds.dropLast))) := fun z σ H e v Q q =>
  ha z σ H e v _ fun x H1 _ m0 s a p => by
    obtain ⟨rfl, rfl⟩ := p
    have ex := at_vol a
    subst ex
    obtain ⟨xs, h1, hl⟩ := s.vol.at_ l _ hm
    rw [List.getLast?_eq_getElem?] at hd
    obtain ⟨y, hy, ay⟩ := hl.get hd
    refine ⟨tyV_l h1, l, xs, y, rfl, rfl, h1, by rw [hl.len]; exact hy, ?_⟩
    have s3 : Stp z m0 H1 (pt m0 l (.lst ds.dropLast)) (upd H1 l (.lst xs.dropLast)) := .put s.vol (dm_of hm) fun ex => ⟨_, upd_same, (hl.go ex).dropLast⟩
    exact q y _ d _ (s.trans s3) (At.go s3.ext _ _ ay) ⟨rfl, rfl⟩
theorem ev_popAt {R1 : List D → Mu → Prop} {ta' : TA} {ds0 : List D} (ha : Ev1 r m ta (.vol l)) (hm : m l = some (.lst ds0)) (h : EvA r m ta' R1) (k : ∀ as m1, R1 as m1 → ∃ (ds : List D) (n : Nat) (d : D), as = [.int (n : Int)] ∧ m1 l = some (.lst ds) ∧ ds[n]? = some d ∧ n < 1000000 ∧ R d (pt m1 l (.lst (ds.eraseIdx n)))) : Ev r m (tBM K "list" rPopAt ta ta') R := fun z σ H e v Q q =>
  ha z σ H e v _ fun x H1 _ m0 s a p => by
    obtain ⟨rfl, rfl⟩ := p
    have ex := at_vol a
    subst ex
    obtain ⟨xs, h1, _⟩ := s.vol.at_ l _ hm
    refine ⟨tyV_l h1, h z σ H1 (e.go s.ext) s.vol _ fun vs H2 as m1 s2 a2 p2 => ?_⟩
    obtain ⟨ds, n, d, rfl, e2, hd, hn, hr⟩ := k as m1 p2
    obtain ⟨w, t, rfl, h3, h4⟩ := a2.inv
    obtain rfl := h4.inv0
    obtain ⟨ys, h2, hl⟩ := s2.vol.at_ l _ e2
    obtain ⟨y, hy, ay⟩ := hl.get hd
    have hlt : n < ys.length := (List.getElem?_eq_some_iff.mp hy).1
    refine ⟨l, ys, n, n, y, rfl, by rw [at_int h3], h2, by omega, by omega, seqIndex_of (by omega) (by omega) |>.trans (by simp), hy, ?_⟩
    have s3 : Stp z m1 H2 (pt m1 l (.lst (ds.eraseIdx n))) (upd H2 l (.lst (ys.eraseIdx n))) := .put s2.vol (dm_of e2) fun ex => ⟨_, upd_same, (hl.go ex).eraseIdx n⟩
    exact q y _ d _ ((s.trans s2).trans s3) (At.go s3.ext _ _ ay) hr
theorem ev_extend {R1 : List D → Mu → Prop} {ta' : TA} {ds0 : List D} (ha : Ev1 r m ta (.vol l)) (hm : m l = some (.lst ds0)) (h : EvA r m ta' R1) (k : ∀ as m1, R1 as m1 → ∃ ds es, as = [.lst es] ∧ m1 l = some (.lst ds) ∧ ds.length + es.length ≤ 16777216 ∧ R .non (pt m1 l (.lst (ds ++ es)))) : Ev r m (tBM K "list" rExtend ta ta') R := fun z σ H e v Q q =>
  ha z σ H e v _ fun x H1 _ m0 s a p => by
    obtain ⟨rfl, rfl⟩ := p
    have ex := at_vol a
    subst ex
    obtain ⟨xs, h1, _⟩ := s.vol.at_ l _ hm
    refine ⟨tyV_l h1, h z σ H1 (e.go s.ext) s.vol _ fun vs H2 as m1 s2 a2 p2 => ?_⟩
    obtain ⟨ds, es, rfl, e2, hz, hr⟩ := k as m1 p2
    obtain ⟨w, t, rfl, h3, h4⟩ := a2.inv
    obtain rfl := h4.inv0
    obtain ⟨b, zs, rfl, n, hb, hlz⟩ := at_lst h3
    obtain ⟨ys, h2, hl⟩ := s2.vol.at_ l _ e2
    refine ⟨l, b, ys, zs, rfl, rfl, h2, hb, by rw [hl.len, hlz.len]; exact hz, ?_⟩
    have s3 : Stp z m1 H2 (pt m1 l (.lst (ds ++ es))) (upd H2 l (.lst (ys ++ zs))) := .put s2.vol (dm_of e2) fun ex => ⟨_, upd_same, (hl.go ex).append (hlz.go ex)⟩
    exact q .non _ .non _ ((s.trans s2).trans s3) mk_non hr
/-- xs[i] = e -/
theorem wp_setL {A : List Anc} {P : Post} {R1 : RR} {to ti : TE} (h : Ev r m te R1) (k : ∀ d m1, R1 d m1 → ∃ (l : Addr) (ds : List D) (n : Nat), Ev1 r m1 to (.vol l) ∧ Ev1 r m1 ti (.int (n : Int)) ∧ m1 l = some (.lst ds) ∧ n < ds.length ∧ P.nx r (pt m1 l (.lst (ds.set n d)))) : Wp A r m (tAsg te (gSub to ti rSetL)) P := fun z σ H o En F =>
  h z σ H o.env o.vol _ fun x H1 d m1 s a p => by
    obtain ⟨l, ds, n, h1, h2, hm, hn, hr⟩ := k d m1 p
    have o1 := o.step s
    refine h1 z σ H1 o1.env o1.vol _ fun y H2 _ m2 s2 a2 p2 => ?_
    obtain ⟨rfl, rfl⟩ := p2
    have o2 := o1.step s2
    refine h2 z σ H2 o2.env o2.vol _ fun w H3 _ m3 s3 a3 p3 => ?_
    obtain ⟨rfl, rfl⟩ := p3
    have o3 := o2.step s3
    obtain ⟨ys, h4, hl⟩ := o3.vol.at_ l _ hm
    refine ⟨l, ys, n, n, at_vol a2, at_int a3, h4, by unfold ixN; rw [if_pos (by omega), if_pos (by rw [hl.len]; omega)]; simp, ?_⟩
    have s4 : Stp z m3 H3 (pt m3 l (.lst (ds.set n d))) (upd H3 l (.lst (ys.set n x))) := .put o3.vol (dm_of hm) fun ex => ⟨_, upd_same, (hl.go ex).set (At.go ((s2.trans s3).ext.trans ex) _ _ a) n⟩
    exact F.nx r _ σ _ (o3.step s4) hr
/-! dicts -/
def dget (kvs : List ((Int × Int) × Int)) (k : Int × Int) : Option Int := (kvs.find? fun p => decide (p.1 = k)).map (·.2)
def dput (kvs : List ((Int × Int) × Int)) (k : Int × Int) (v : Int) : List ((Int × Int) × Int) :=
  if (kvs.any fun p => decide (p.1 = k)) = true then kvs.map (fun p => if p.1 = k then (p.1, v) else p) else kvs ++ [(k, v)]
def ddrop (kvs : List ((Int × Int) × Int)) (k : Int × Int) : List ((Int × Int) × Int) := kvs.filter fun p => decide (p.1 ≠ k)
abbrev kE (k : Int × Int) : List Key := [.inl k.1, .inl k.2]
theorem kE_inj {p q : Int × Int} : kE p = kE q ↔ p = q := by
  constructor
  · intro h
    have h1 := congrArg (fun l => l.head?) h
    have h2 := congrArg (fun l => l.tail.head?) h
    have e1 : p.1 = q.1 := Sum.inl.inj (Option.some.inj h1)
    have e2 : p.2 = q.2 := Sum.inl.inj (Option.some.inj h2)
    exact Prod.ext e1 e2
  · rintro rfl; rfl
theorem dec_kE {p : (Int × Int) × Int} {k : Int × Int} : decide ((kvE p).1 = kE k) = decide (p.1 = k) := by
  rw [Bool.eq_iff_iff, decide_eq_true_eq, decide_eq_true_eq]
  exact kE_inj
theorem valV_kE (k : Int × Int) : ∀ kvs : List ((Int × Int) × Int), valV (kvs.map kvE) (kE k) = (dget kvs k).map V.int
  | [] => rfl
  | p :: kvs => by
    have ih := valV_kE k kvs
    unfold valV dget at *
    rw [List.map_cons, List.find?_cons, List.find?_cons, dec_kE]
    cases decide (p.1 = k) with
    | true => rfl
    | false => exact ih
theorem putK_kE (k : Int × Int) (i : Int) (kvs : List ((Int × Int) × Int)) : putK (kvs.map kvE) (kE k) (.int i) = (dput kvs k i).map kvE := by
  unfold putK dput
  have e : ((kvs.map kvE).any fun kv => decide (kv.1 = kE k)) = kvs.any fun p => decide (p.1 = k) := by
    rw [List.any_map]
    congr 1
    funext p
    exact dec_kE
  rw [e]
  cases kvs.any fun p => decide (p.1 = k) with
  | true =>
    rw [if_pos rfl, if_pos rfl, List.map_map, List.map_map]
    apply List.map_congr_left
    intro p _
    show (if (kvE p).1 = kE k then _ else _) = kvE (if p.1 = k then _ else _)
    by_cases h : p.1 = k
    · rw [if_pos h, if_pos (show (kvE p).1 = kE k from kE_inj.mpr h)]; rfl
    · rw [if_neg h, if_neg (show ¬ (kvE p).1 = kE k from fun q => h (kE_inj.mp q))]
  | false =>
    rw [if_neg Bool.false_ne_true, if_neg Bool.false_ne_true, List.map_append]; rfl
theorem dropK_kE (k : Int × Int) (kvs : List ((Int × Int) × Int)) : dropK (kvs.map kvE) (kE k) = (ddrop kvs k).map kvE := by
  unfold dropK ddrop
  rw [List.filter_map]
  congr 1
  apply List.filter_congr
  intro p _
  show decide (¬ (kvE p).1 = kE k) = decide (¬ p.1 = k)
  rw [Bool.eq_iff_iff, decide_eq_true_eq, decide_eq_true_eq]
  exact not_congr kE_inj
abbrev tk (k : Int × Int) : D := .tup [.int k.1, .int k.2]
theorem at_tk {k : Int × Int} (h : At (mm z m) H (tk k) y) : ∃ b, y = .ref b ∧ H b = some (.tup ((kE k).map kV)) := by
  obtain ⟨b, xs, rfl, n, hb, hl⟩ := at_tup h
  obtain ⟨x1, t, rfl, h1, h2⟩ := hl.inv
  obtain ⟨x2, t, rfl, h3, h4⟩ := h2.inv
  obtain rfl := h4.inv0
  rw [at_int h1, at_int h3] at hb
  exact ⟨b, rfl, hb⟩
/-- what a dict's value may be -/
def DV (m : Mu) (d : D) (kvs : List ((Int × Int) × Int)) : Prop := d = .dic kvs ∨ ∃ l, d = .vol l ∧ m l = some (.dic kvs)
theorem dv_at {kvs} (h : DV m d kvs) (v : Vol z m H) (a : At (mm z m) H d x) : ∃ p, x = .ref p ∧ H p = some (.dT (kvs.map kvE)) := by
  rcases h with rfl | ⟨l, rfl, hm⟩
  · obtain ⟨p, rfl, n, hp⟩ := at_dic a
    exact ⟨p, rfl, hp⟩
  · exact ⟨l, at_vol a, v.at_ l _ hm⟩
def ioD (o : Option Int) (e : D) : D := match o with
  | some i => .int i
  | none => e
theorem ev_dget2 {kvs} {k : Int × Int} {d0 e : D} (hd : DV m d0 kvs) (h : Ev1 r m ta d0) (h1 : Ev1 r m tb (tk k)) (h2 : Ev1 r m tc e) : Ev1 r m (tDGet2 ta tb tc) (ioD (dget kvs k) e) := fun z σ H en v Q q =>
  h z σ H en v _ fun x H1 _ m1 s1 a1 p => by
    obtain ⟨rfl, rfl⟩ := p
    obtain ⟨p, rfl, hp⟩ := dv_at hd s1.vol a1
    refine ⟨p, rfl, .inr ⟨_, .inl hp⟩, h1 z σ H1 (en.go s1.ext) s1.vol _ fun y H2 _ m2 s2 a2 p => ?_⟩
    obtain ⟨rfl, rfl⟩ := p
    refine h2 z σ H2 (en.go (s1.trans s2).ext) s2.vol _ fun w H3 _ m3 s3 a3 p => ?_
    obtain ⟨rfl, rfl⟩ := p
    obtain ⟨b, rfl, hb⟩ := at_tk (At.go s3.ext _ _ a2)
    obtain ⟨p', e', hp'⟩ := dv_at hd s3.vol (At.go (s2.trans s3).ext _ _ a1)
    cases e'
    refine ⟨_, .t hp' hb, ?_⟩
    rw [valV_kE]
    cases hg : dget kvs k with
    | none => exact q w H3 _ m3 ((s1.trans s2).trans s3) a3 ⟨by rw [hg]; rfl, rfl⟩
    | some i => exact q (.int i) H3 (.int i) m3 ((s1.trans s2).trans s3) mk_int ⟨by rw [hg]; rfl, rfl⟩
theorem ev_dget1 {kvs} {k : Int × Int} {d0 : D} (hd : DV m d0 kvs) (h : Ev1 r m ta d0) (h1 : Ev1 r m tb (tk k)) : Ev1 r m (tDGet1 ta tb) (ioD (dget kvs k) .non) := fun z σ H en v Q q =>
  h z σ H en v _ fun x H1 _ m1 s1 a1 p => by
    obtain ⟨rfl, rfl⟩ := p
    obtain ⟨p, rfl, hp⟩ := dv_at hd s1.vol a1
    refine ⟨p, rfl, .inr ⟨_, .inl hp⟩, h1 z σ H1 (en.go s1.ext) s1.vol _ fun y H2 _ m2 s2 a2 p => ?_⟩
    obtain ⟨rfl, rfl⟩ := p
    obtain ⟨b, rfl, hb⟩ := at_tk a2
    obtain ⟨p', e', hp'⟩ := dv_at hd s2.vol (At.go s2.ext _ _ a1)
    cases e'
    refine ⟨_, .t hp' hb, ?_⟩
    rw [valV_kE]
    cases hg : dget kvs k with
    | none => exact q .non H2 .non m2 (s1.trans s2) mk_non ⟨by rw [hg]; rfl, rfl⟩
    | some i => exact q (.int i) H2 (.int i) m2 (s1.trans s2) mk_int ⟨by rw [hg]; rfl, rfl⟩
theorem ev_dix {kvs} {k : Int × Int} {d0 : D} (hd : DV m d0 kvs) (h : Ev1 r m ta d0) (h1 : Ev1 r m tb (tk k)) (hg : dget kvs k = some i) : Ev1 r m (tDGet ta tb) (.int i) := fun z σ H en v Q q =>
  h z σ H en v _ fun x H1 _ m1 s1 a1 p => by
    obtain ⟨rfl, rfl⟩ := p
    refine h1 z σ H1 (en.go s1.ext) s1.vol _ fun y H2 _ m2 s2 a2 p => ?_
    obtain ⟨rfl, rfl⟩ := p
    obtain ⟨b, rfl, hb⟩ := at_tk a2
    obtain ⟨p', rfl, hp'⟩ := dv_at hd s2.vol (At.go s2.ext _ _ a1)
    exact ⟨p', .int i, rfl, by
      have := DGet.t hp' hb
      rw [valV_kE, hg] at this
      exact this, q (.int i) H2 (.int i) m2 (s1.trans s2) mk_int ⟨rfl, rfl⟩⟩
theorem ev_din {kvs} {k : Int × Int} {d0 : D} (hd : DV m d0 kvs) (h1 : Ev1 r m tb (tk k)) (h : Ev1 r m ta d0) : Ev1 r m (tDIn tb ta) (.bl (dget kvs k).isSome) := fun z σ H en v Q q =>
  h1 z σ H en v _ fun y H1 _ m1 s1 a1 p => by
    obtain ⟨rfl, rfl⟩ := p
    refine h z σ H1 (en.go s1.ext) s1.vol _ fun x H2 _ m2 s2 a2 p => ?_
    obtain ⟨rfl, rfl⟩ := p
    obtain ⟨b, rfl, hb⟩ := at_tk (At.go s2.ext _ _ a1)
    obtain ⟨p', rfl, hp'⟩ := dv_at hd s2.vol a2
    refine ⟨p', _, rfl, .t hp' hb, ?_⟩
    rw [valV_kE, Option.isSome_map]
    exact q _ H2 _ m2 (s1.trans s2) mk_bl ⟨rfl, rfl⟩
theorem ev_dnotIn {kvs} {k : Int × Int} {d0 : D} (hd : DV m d0 kvs) (h1 : Ev1 r m tb (tk k)) (h : Ev1 r m ta d0) : Ev1 r m (tDNotIn tb ta) (.bl (!(dget kvs k).isSome)) := fun z σ H en v Q q =>
  h1 z σ H en v _ fun y H1 _ m1 s1 a1 p => by
    obtain ⟨rfl, rfl⟩ := p
    refine h z σ H1 (en.go s1.ext) s1.vol _ fun x H2 _ m2 s2 a2 p => ?_
    obtain ⟨rfl, rfl⟩ := p
    obtain ⟨b, rfl, hb⟩ := at_tk (At.go s2.ext _ _ a1)
    obtain ⟨p', rfl, hp'⟩ := dv_at hd s2.vol a2
    refine ⟨p', _, rfl, .t hp' hb, ?_⟩
    rw [valV_kE, Option.isSome_map]
    exact q _ H2 _ m2 (s1.trans s2) mk_bl ⟨rfl, rfl⟩
/-- d[k] = v of a changing dict -/
theorem wp_dput {A : List Anc} {P : Post} {kvs} {k : Int × Int} {td ty tv : TE} (hv : Ev1 r m tv (.int i)) (hd : Ev1 r m td (.vol l)) (hk : Ev1 r m ty (tk k)) (hm : m l = some (.dic kvs)) (hz : kvs.length < 16777216) (hP : P.nx r (pt m l (.dic (dput kvs k i)))) : Wp A r m (sDPut td ty tv) P := fun z σ H o En F =>
  hv z σ H o.env o.vol _ fun x H1 _ m1 s1 a1 p => by
    obtain ⟨rfl, rfl⟩ := p
    have o1 := o.step s1
    refine hd z σ H1 o1.env o1.vol _ fun y H2 _ m2 s2 a2 p => ?_
    obtain ⟨rfl, rfl⟩ := p
    have o2 := o1.step s2
    refine hk z σ H2 o2.env o2.vol _ fun w H3 _ m3 s3 a3 p => ?_
    obtain ⟨rfl, rfl⟩ := p
    have o3 := o2.step s3
    obtain ⟨b, rfl, hb⟩ := at_tk a3
    have hl : H3 l = some (.dT (kvs.map kvE)) := o3.vol.at_ l _ hm
    rw [at_int a1]
    have ey := at_vol a2
    subst ey
    refine ⟨l, _, rfl, .t hl hb (by rw [List.length_map]; exact hz), ?_⟩
    rw [putK_kE]
    exact F.nx r _ σ _ (o3.step (.put (c := .dic (dput kvs k i)) o3.vol (dm_of hm) fun _ => (upd_same : upd H3 l _ l = _))) hP
theorem ev_dnewF : Ev1 r m tDNewT (.dic []) := fun z σ H e v Q q p hp => q _ _ (.dic []) m (.new v hp) (mk_dic (v.fresh hp) upd_same) ⟨rfl, rfl⟩
theorem ev_dnewV : Ev r m tDNewT (NewV (.dic []) m) := fun z σ H e v Q q p hp =>
  q _ _ (.vol p) (pt m p (.dic [])) (.newVol v hp upd_same) mk_vol ⟨p, rfl, v.freshM hp, rfl⟩
theorem keys_at (v : Vol z m H) : ∀ {kvs : List ((Int × Int) × Int)} {bs : List Addr}, IsKeys H (kvs.map kvE) bs → AtL (mm z m) H (kvs.map fun p => tk p.1) (bs.map V.ref)
  | [], bs, h => by cases h; exact .nil
  | p :: kvs, bs, h => by
    cases h with
    | cons h1 h2 =>
      refine .cons ?_ (keys_at v h2)
      have e : H _ = some (.tup [.int p.1.1, .int p.1.2]) := h1
      exact mk_tup (v.tup e) e (.cons mk_int (.cons mk_int .nil))
theorem ev_listD {kvs} {d0 : D} (hd : DV m d0 kvs) (h : Ev1 r m ta d0) : Ev1 r m (tCB rListDT (tCons ta tNil)) (.lst (kvs.map fun p => tk p.1)) := fun z σ H en v Q q =>
  h z σ H en v _ fun x H1 _ m1 s1 a1 p => by
    obtain ⟨rfl, rfl⟩ := p
    obtain ⟨p, rfl, hp⟩ := dv_at hd s1.vol a1
    exact ⟨p, _, rfl, .inl hp, fun p bs np hk => (q.from s1).newF s1.vol np (keys_at s1.vol hk) ⟨rfl, rfl⟩⟩
end
end DL
/-! DLR: rules that the layer lacks; what the derivations name. -/
namespace DL
open PySem PySem.Spec PyProof.Rows L2
theorem hu64 {A : Around} {k : Nat} (hr : Room k A) : A.units + 64 < cLine := hr.units
theorem hu65 {A : Around} {k : Nat} (hr : Room k A) : A.units + 65 < cLine := by have := hr.un; omega
/-- the built-ins' names are free -/
structure Blt (mg : Str → Option Value) : Prop where
  len : mg "len" = none
  range : mg "range" = none
  enumerate : mg "enumerate" = none
  min : mg "min" = none
  max : mg "max" = none
  isinstance : mg "isinstance" = none
  int : mg "int" = none
  bool : mg "bool" = none
  tuple : mg "tuple" = none
  str : mg "str" = none
  all : mg "all" = none
  set : mg "set" = none
  list : mg "list" = none
  sorted : mg "sorted" = none
  dict : mg "dict" = none
  zip : mg "zip" = none
/-- a def of the module and its promise -/
def Df (P : Program) (w : World) (K : PySem.W.Frag) (mg : Str → Option Value) (base : Heap) (k : Nat) (x : Str) (ps : List Str) (sp : Sp) : Prop :=
  ∃ f fd, FnOk P w K mg base CX0 k f fd ps sp ∧ mg x = some (.ref f) ∧ PySem.W.keepIn K (.ref f) = true ∧ Binds K fd ps []
/-- a method of the class at C and its promise -/
def Dm (P : Program) (w : World) (K : PySem.W.Frag) (mg : Str → Option Value) (base : Heap) (C : Addr) (k : Nat) (x : Str) (ps : List Str) (sp : Sp) : Prop :=
  ∃ f fd, FnOk P w K mg base CX0 k f fd ps sp ∧ Meth K C x f ∧ Binds K fd ps []
/-- the class's __init__ -/
def Dk (P : Program) (w : World) (K : PySem.W.Frag) (mg : Str → Option Value) (base : Heap) (C : Addr) (k : Nat) (ps : List Str) (sp : Sp) : Prop :=
  ∃ j f fd, j + 1 ≤ k ∧ FnOk P w K mg base CX0 j f fd ps sp ∧ Mk K C f ∧ Binds K fd ps []
/-- the class -/
structure Jdg (K : PySem.W.Frag) (mg : Str → Option Value) (C : Addr) : Prop where
  cl : Cls K C
  mgC : mg "Judge" = some (.ref C)
  makes : PySem.W.makesIn K C = true
  keep : PySem.W.keepIn K (.ref C) = true
theorem Df.mono {P : Program} {w : World} {K : PySem.W.Frag} {mg : Str → Option Value} {base : Heap} {j k : Nat} {x : Str} {ps : List Str} {sp : Sp} (h : Df P w K mg base j x ps sp) (hk : j ≤ k) : Df P w K mg base k x ps sp := by
  obtain ⟨f, fd, F, r⟩ := h
  exact ⟨f, fd, F.mono hk, r⟩
theorem Dm.mono {P : Program} {w : World} {K : PySem.W.Frag} {mg : Str → Option Value} {base : Heap} {C : Addr} {j k : Nat} {x : Str} {ps : List Str} {sp : Sp} (h : Dm P w K mg base C j x ps sp) (hk : j ≤ k) : Dm P w K mg base C k x ps sp := by
  obtain ⟨f, fd, F, r⟩ := h
  exact ⟨f, fd, F.mono hk, r⟩
section
variable {X : Cx} {k : Nat} {x m : Str} {ps : List Str} {sp : Sp} {p pos apos : Pos} {e o : Expr} {es : List Expr} {t : TA} {ta : TE} {C : Addr}
theorem pe_df (D : Df X.prog X.w X.K X.mg X.base k x ps sp) (hr : Room k X.A) (hg : Gl X x) (ha : PA X (e :: es) t) (hdb : (x == ("__debug__" : Str)) = false := by decide) (he : starEach (e :: es) X.env = (false, eval e X.env) :: starEach es X.env := by rfl)
    (hpl : (backTo pos (starEach es X.env)).any (·.1) = false := by rfl) : PE X (.Call (.Name x p) (e :: es) [] pos) (tCall sp [] E0 t) := by
  obtain ⟨f, fd, F, hm, hk, hb⟩ := D
  exact pe_call F hr hg hm hk hb .nil pass0 ha hdb he hpl
theorem pe_dm {mg : Str → Option Value} {pl : Sem Bool} (D : Dm X.prog X.w X.K X.mg X.base C k m ps sp) (T : Jdg X.K mg C) (hr : Room k X.A) (he : PE X o ta) (ha : PA X (e :: es) t)
    (hst : starEach (e :: es) X.env = (false, eval e X.env) :: starEach es X.env := by rfl) (hpl : (backTo pos (starEach es X.env)).any (·.1) = false := by rfl)
    (ht : eval (.Call (.Attribute o m apos) (e :: es) [] pos) X.env = (do
      let ov ← eval o X.env
      standAt apos.atName
      let (f, first) ← holding [ov] (getMethod ov m pl)
      callWith pos f first (backTo pos (starEach (e :: es) X.env)) (backToKw pos (keywordEach [] X.env))) := by rfl) :
    PE X (.Call (.Attribute o m apos) (e :: es) [] pos) (tMeth C m sp [] E0 ta t) := by
  obtain ⟨f, fd, F, hm, hb⟩ := D
  exact pe_meth (pl := pl) he T.cl hm F hr hb .nil pass0 ha hst hpl ht
theorem pe_dmR {mg : Str → Option Value} (D : Dm X.prog X.w X.K X.mg X.base C k m ps sp) (T : Jdg X.K mg C) (hr : Room k X.A) (he : PE X o ta) (ha : PA X (e :: es) t) (hb : attributeBase o m X.env (eval o X.env) = eval o X.env) (hl : (apos.endLine == pos.line) = true)
    (hf : methodCallForm ((e :: es).length + ([] : List Keyword).length) (backTo pos (starEach (e :: es) X.env)) (backToKw pos (keywordEach [] X.env)) = true := by rfl) (hst : starEach (e :: es) X.env = (false, eval e X.env) :: starEach es X.env := by rfl) (hpl : (backTo pos (starEach es X.env)).any (·.1) = false := by rfl) :
    PE X (.Call (.Attribute o m apos) (e :: es) [] pos) (tMeth C m sp [] E0 ta t) :=
  pe_dm (pl := plainOf o X.env) D T hr he ha hst hpl (mcall_of (t := fun ov => do
      let (f, first) ← holding [ov] (getMethod ov m (plainOf o X.env))
      callWith pos f first (backTo pos (starEach (e :: es) X.env)) (backToKw pos (keywordEach [] X.env))) hb fun ov => mcall_line hf hl)
theorem pe_dmk (D : Dk X.prog X.w X.K X.mg X.base C k ps sp) (T : Jdg X.K X.mg C) (hr : Room k X.A) (hg : Gl X "Judge") (ha : PA X (e :: es) t)
    (he : starEach (e :: es) X.env = (false, eval e X.env) :: starEach es X.env := by rfl) (hpl : (backTo pos (starEach es X.env)).any (·.1) = false := by rfl) : PE X (.Call (.Name "Judge" p) (e :: es) [] pos) (tMake C sp [] E0 t) := by
  obtain ⟨j, f, fd, hj, F, hm, hb⟩ := D
  exact pe_make hm F (hr.mono hj) hg T.mgC hb .nil pass0 ha (by decide) he hpl
end
/-! ### len(set(t)) -/
def tLenSetT (K : PySem.W.Frag) (ta : TE) : TE := fun σ H Q => ta σ H fun x H1 => ∃ (a : Addr) (ns : List Int), x = .ref a ∧ SqT K H1 a (ns.map V.int) ∧ ns.length ≤ 1000 ∧ ∀ n : Nat, (n = ns.length ↔ ns.Nodup) → Q (.int (n : Nat)) H1
/-! ### min, max of a pair -/
def rMinT (K : PySem.W.Frag) : List V → Hp → VK → Prop := fun xs H Q => ∃ (a : Addr) (i j : Int), xs = [.ref a] ∧ SqT K H a [.int i, .int j] ∧ Q (.int (if j < i then j else i)) H
def rMaxT (K : PySem.W.Frag) : List V → Hp → VK → Prop := fun xs H Q => ∃ (a : Addr) (i j : Int), xs = [.ref a] ∧ SqT K H a [.int i, .int j] ∧ Q (.int (if j > i then j else i)) H
/-! ### dict(zip(a, b)), dict(d) -/
def tDictZip (K : PySem.W.Frag) (ta tb : TE) : TE := fun σ H Q => ta σ H fun x H1 => tb σ H1 fun y H2 => ∃ (a b : Addr) (ks : List (List Key)) (bs : List Addr) (vs : List V), x = .ref a ∧ y = .ref b ∧ SqL K H2 a (bs.map V.ref) ∧ SqL K H2 b vs ∧
  Paired (fun k c => H2 c = some (.tup (k.map kV))) ks bs ∧ ks.Nodup ∧ ks.length ≤ 1000 ∧ vs.length ≤ ks.length ∧ ∀ p, H2 p = none → Q (.ref p) (upd H2 p (.dT (ks.zip vs)))
def small2 (k : List Key) : Prop := ∃ i j : Nat, k = [.inl (i : Int), .inl (j : Int)] ∧ i < 8 ∧ j < 8
def tDictCopy (ta : TE) : TE := fun σ H Q => ta σ H fun x H1 => ∃ (a : Addr) (kvs : List (List Key × V)), x = .ref a ∧ H1 a = some (.dT kvs) ∧ (∀ p ∈ kvs, small2 p.1) ∧ ∀ p, H1 p = none → Q (.ref p) (upd H1 p (.dT kvs))
/-! ### first, *rest = a tuple -/
def gStar (K : PySem.W.Frag) (i j : Nat) : TG := fun v σ H Q => ∃ (a : Addr) (x : V) (xs : List V), v = .ref a ∧ SqT K H a (x :: xs) ∧ xs.length ≤ 1000 ∧ ∀ p, H p = none → Q ((σ.set i (some x)).set j (some (.ref p))) (upd H p (.lst xs))
/-! ### enumerate of a tuple -/
def IteT (K : PySem.W.Frag) (a : Addr) : It :=
  ⟨fun i H => ∃ (xs : List V) (x : V), SqT K H a xs ∧ xs[i]? = some x, fun i H v H' => ∃ T x, v = .ref T ∧ H T = none ∧ H' = upd H T (.tup [.int (i : Nat), x]) ∧ ∀ xs, SqT K H a xs → xs[i]? = some x, fun i H => ∃ xs : List V, SqT K H a xs ∧ xs.length ≤ i⟩
def iEnumT (K : PySem.W.Frag) (ta : TA) : TI := fun σ H R => ta σ H fun vs H1 => ∃ a xs, vs = [.ref a] ∧ SqT K H1 a xs ∧ R (IteT K a) H1
/-! ### x in a tuple of tuples; d != {} -/
def rInDT (K : PySem.W.Frag) : R2 := fun x y H Q => ∃ d ds, Dp K H x d ∧ Dp K H y (.tuple ds) ∧ SeqAt.shaped d = true ∧ SeqAt.shaped (.tuple ds) = true ∧ Q (.bl (ds.any fun z => PyData.eqv z d)) H
def rNeDT : R2 := fun x y H Q => ∃ (a b : Addr) (ks : List (List Key × V)), x = .ref a ∧ y = .ref b ∧ H a = some (.dT ks) ∧ H b = some (.dT []) ∧ Q (.bl (!ks.isEmpty)) H
/-! ### d.get(None) of the empty dict; d.pop(k) -/
def tDGet1N (td ty : TE) : TE := fun σ H Q => td σ H fun x H1 => ∃ a, x = .ref a ∧ IsD H1 a ∧ ty σ H1 fun y H2 => (∃ o, DGet H2 a y o ∧ Q (o.getD .non) H2) ∨ (y = .non ∧ H2 a = some (.dT []) ∧ Q .non H2)
def tDPopT (td ty : TE) : TE := fun σ H Q => td σ H fun x H1 => ∃ a, x = .ref a ∧ IsD H1 a ∧ ty σ H1 fun y H2 => ∃ kvs k b v, H2 a = some (.dT kvs) ∧ y = .ref b ∧ H2 b = some (.tup (k.map kV)) ∧ valV kvs k = some v ∧ Q v (upd H2 a (.dT (dropK kvs k)))
end DL
namespace DL
open PySem PySem.Spec PyProof.Rows L2
theorem op_inDT {X : Cx} (hu : X.A.units + 65 < cLine) : OpR X (compareOp .In) (rInDT X.K) := by
  intro pins s σ H x y v u Q I rx ry h
  obtain ⟨d, ds, hd, he, sd, se, q⟩ := h
  obtain ⟨as, r1⟩ := Dp.reads I d x v hd rx
  obtain ⟨bs, r2⟩ := Dp.reads I (.tuple ds) y u he ry
  exact SeqAt.in_tuple_reads r2 r1 (SeqAt.canLay_of_shaped se) (SeqAt.canLay_of_shaped sd) (room_in_shaped sd hu) ⟨.bl _, H, I, rfl, q⟩
end DL
namespace DL
open PySem PySem.Spec PyProof.Rows L2

theorem max_tup2 {prog : Program} {w : World} {A : Around} {E : Value → Shared → Prop} {s : Shared} {l : Addr} {a b : Int} {t u : Tok} {Q : Value → Shared → Prop} (hh : A.handled = none) (hT : s.heap.IsTuple l (intItems #[(a, t), (b, u)]))
    (h : ∀ h' tk, (∀ c o, s.heap.get? c = some o → h'.get? c = some o) → Q (if b > a then .int b u else .int a t) { s with heap := h', toks := tk }) :
    wpAny (model prog w) A (call (.builtin "max") [.ref l]) Q E s := by
  have hlt : l < s.heap.objs.size := by obtain ⟨_, e, _⟩ := hT; exact Heap.lt_size e
  refine call_max_walk (wpAny_pyIter_tuple hT ?_)
  refine ⟨_, [_, l], [_], _, _, _, _, rfl, Walks.tuple (A := A.in1) hh _ l (Nat.ne_of_lt hlt) (intItems #[(a, t), (b, u)]),
    ⟨⟨_, Heap.get?_push_size _ rfl, rfl, rfl⟩, hT.push _⟩, fun c hc => ?_, by simp [intItems], CmpOf.ints_gt (numAt #[(a, t), (b, u)]) (fun _ _ => intItems_at), fun v h' tk hP hk => ?_⟩
  · show c < (s.heap.push _).objs.size
    rw [Heap.size_push]
    rcases List.mem_cons.mp hc with rfl | hc
    · exact Nat.lt_succ_self _
    · rcases List.mem_cons.mp hc with rfl | hc
      · exact Nat.lt_succ_of_lt hlt
      · cases hc
  · have hold : ∀ c o, s.heap.get? c = some o → h'.get? c = some o := fun c o e => by
      refine hk c o (fun hm => ?_) (Heap.get?_push_of_some _ e)
      rcases List.mem_cons.mp hm with e1 | hm
      · have := Heap.lt_size e; rw [e1] at this; exact Nat.lt_irrefl _ this
      · cases hm
    have := h h' tk hold
    have hv : v = if b > a then Value.int b u else Value.int a t := by
      have hP' : (intItems #[(a, t), (b, u)])[argBest (fun i j => decide (numAt #[(a, t), (b, u)] i > numAt #[(a, t), (b, u)] j)) 1]? = some v := by
        have hsz2 : (intItems #[(a, t), (b, u)]).size - 1 = 1 := by simp [intItems]
        rw [← hsz2]; exact hP
      by_cases hba : b > a
      · have e : argBest (fun i j => decide (numAt #[(a, t), (b, u)] i > numAt #[(a, t), (b, u)] j)) 1 = 1 := by simp [argBest, numAt, hba]
        rw [e] at hP'
        simpa [intItems, hba] using hP'.symm
      · have e : argBest (fun i j => decide (numAt #[(a, t), (b, u)] i > numAt #[(a, t), (b, u)] j)) 1 = 0 := by simp [argBest, numAt, hba]
        rw [e] at hP'
        simpa [intItems, hba] using hP'.symm
    rw [hv]; exact this
theorem cr_maxT {X : Cx} (hc : X.calm = true) : CallR X (.builtin "max") (rMaxT X.K) := by
  intro pins s σ H vs us Q I r h
  obtain ⟨a, i, j, rfl, hs, q⟩ := h
  obtain ⟨its, rv, hl, _⟩ := I.tuple hs
  rw [Vals.ref1 r]
  obtain ⟨x, xs, rfl, hx, hxs⟩ : ∃ x xs, its = x :: xs ∧ (∃ t, x = .int i t) ∧ Vals [.int j] xs := by
    cases rv with
    | cons h1 h2 => exact ⟨_, _, rfl, h1, h2⟩
  obtain ⟨y, ys, rfl, hy, hys⟩ : ∃ y ys, xs = y :: ys ∧ (∃ t, y = .int j t) ∧ Vals [] ys := by
    cases hxs with
    | cons h1 h2 => exact ⟨_, _, rfl, h1, h2⟩
  cases hys
  obtain ⟨t, rfl⟩ := hx
  obtain ⟨u, rfl⟩ := hy
  refine max_tup2 (I.ok.hd hc) (a := i) (b := j) (t := t) (u := u) ?_ fun h' tk k => ⟨_, H, I.kept k, ?_, q⟩
  · obtain ⟨o, e, c, n, d⟩ := hl
    exact ⟨o, e, c, n, by rw [d]; simp [intItems]⟩
  · by_cases hj : j > i
    · rw [if_pos hj, if_pos hj]; exact ⟨_, rfl⟩
    · rw [if_neg hj, if_neg hj]; exact ⟨_, rfl⟩

theorem min_tup2 {prog : Program} {w : World} {A : Around} {E : Value → Shared → Prop} {s : Shared} {l : Addr} {a b : Int} {t u : Tok} {Q : Value → Shared → Prop} (hh : A.handled = none) (hT : s.heap.IsTuple l (intItems #[(a, t), (b, u)]))
    (h : ∀ h' tk, (∀ c o, s.heap.get? c = some o → h'.get? c = some o) → Q (if b < a then .int b u else .int a t) { s with heap := h', toks := tk }) :
    wpAny (model prog w) A (call (.builtin "min") [.ref l]) Q E s := by
  have hlt : l < s.heap.objs.size := by obtain ⟨_, e, _⟩ := hT; exact Heap.lt_size e
  refine call_min_walk (wpAny_pyIter_tuple hT ?_)
  refine ⟨_, [_, l], [_], _, _, _, _, rfl, Walks.tuple (A := A.in1) hh _ l (Nat.ne_of_lt hlt) (intItems #[(a, t), (b, u)]),
    ⟨⟨_, Heap.get?_push_size _ rfl, rfl, rfl⟩, hT.push _⟩, fun c hc => ?_, by simp [intItems], CmpOf.ints_lt (numAt #[(a, t), (b, u)]) (fun _ _ => intItems_at), fun v h' tk hP hk => ?_⟩
  · show c < (s.heap.push _).objs.size
    rw [Heap.size_push]
    rcases List.mem_cons.mp hc with rfl | hc
    · exact Nat.lt_succ_self _
    · rcases List.mem_cons.mp hc with rfl | hc
      · exact Nat.lt_succ_of_lt hlt
      · cases hc
  · have hold : ∀ c o, s.heap.get? c = some o → h'.get? c = some o := fun c o e => by
      refine hk c o (fun hm => ?_) (Heap.get?_push_of_some _ e)
      rcases List.mem_cons.mp hm with e1 | hm
      · have := Heap.lt_size e; rw [e1] at this; exact Nat.lt_irrefl _ this
      · cases hm
    have := h h' tk hold
    have hv : v = if b < a then Value.int b u else Value.int a t := by
      have hP' : (intItems #[(a, t), (b, u)])[argBest (fun i j => decide (numAt #[(a, t), (b, u)] i < numAt #[(a, t), (b, u)] j)) 1]? = some v := by
        have hsz2 : (intItems #[(a, t), (b, u)]).size - 1 = 1 := by simp [intItems]
        rw [← hsz2]; exact hP
      by_cases hba : b < a
      · have e : argBest (fun i j => decide (numAt #[(a, t), (b, u)] i < numAt #[(a, t), (b, u)] j)) 1 = 1 := by simp [argBest, numAt, hba]
        rw [e] at hP'
        simpa [intItems, hba] using hP'.symm
      · have e : argBest (fun i j => decide (numAt #[(a, t), (b, u)] i < numAt #[(a, t), (b, u)] j)) 1 = 0 := by simp [argBest, numAt, hba]
        rw [e] at hP'
        simpa [intItems, hba] using hP'.symm
    rw [hv]; exact this
theorem cr_minT {X : Cx} (hc : X.calm = true) : CallR X (.builtin "min") (rMinT X.K) := by
  intro pins s σ H vs us Q I r h
  obtain ⟨a, i, j, rfl, hs, q⟩ := h
  obtain ⟨its, rv, hl, _⟩ := I.tuple hs
  rw [Vals.ref1 r]
  obtain ⟨x, xs, rfl, hx, hxs⟩ : ∃ x xs, its = x :: xs ∧ (∃ t, x = .int i t) ∧ Vals [.int j] xs := by
    cases rv with
    | cons h1 h2 => exact ⟨_, _, rfl, h1, h2⟩
  obtain ⟨y, ys, rfl, hy, hys⟩ : ∃ y ys, xs = y :: ys ∧ (∃ t, y = .int j t) ∧ Vals [] ys := by
    cases hxs with
    | cons h1 h2 => exact ⟨_, _, rfl, h1, h2⟩
  cases hys
  obtain ⟨t, rfl⟩ := hx
  obtain ⟨u, rfl⟩ := hy
  refine min_tup2 (I.ok.hd hc) (a := i) (b := j) (t := t) (u := u) ?_ fun h' tk k => ⟨_, H, I.kept k, ?_, q⟩
  · obtain ⟨o, e, c, n, d⟩ := hl
    exact ⟨o, e, c, n, by rw [d]; simp [intItems]⟩
  · by_cases hj : j < i
    · rw [if_pos hj, if_pos hj]; exact ⟨_, rfl⟩
    · rw [if_neg hj, if_neg hj]; exact ⟨_, rfl⟩
end DL
namespace DL
open PySem PySem.Spec PyProof.Rows L2
theorem enum_endT {prog : Program} {w : World} {A : Around} {E : Value → Shared → Prop} {s : Shared} {e it a : Addr} {i : Nat} {items : Array Value} {k : Int} {old : Value} {Q : Option Value → Shared → Prop}
    (hh : A.handled = none) (he : IsEnum s.heap e it k old) (h1 : s.heap.IsTupleIter it a i) (h2 : s.heap.IsTuple a items) (hi : items.size ≤ i)
    (hQ : ∀ h', Heap.ExtBut it s.heap h' → Q none { s with heap := h' }) : wpAny (model prog w) A (pyNext (.ref e)) Q E s := by
  have hT : s.TypeIs (.ref e) "enumerate" := ⟨_, he, rfl⟩
  unfold pyNext
  refine wpAny_bind (wpAny_attempt (wpAny_callSpecial?_slot (name := Str.ofString "__next__") hT F.slot_enumerate_next
    (wpAny_call_entry F.slot_enumerate_next hT F.entry_enumerate_next ?_ (F.args_enumerate_next_1 _))))
  show wpAny _ _ (field (.ref e) 2 >>= _) _ _ _
  refine wpAny_bind (wpAny_field he rfl (x := .ref it) rfl ?_)
  refine wpAny_bind (wpAny_nextOf_tuple_end hh h1 h2 (by simp [hi]) fun h' x he' hx' => ?_)
  obtain ⟨o, ho, hc⟩ := hx'
  refine wpAny_bind (wpAny_isInstance (T := "StopIteration") (b := true) ⟨o, ho, hc⟩ isSubtype_stop ?_)
  exact wpAny_pure (hQ _ he')
theorem turn_enumT {P : Program} {w : World} {K : PySem.W.Frag} {elts : List Expr} {kk : Nat} {tpos : Pos} (a e it : Addr) (hai : a ≠ it) (hae : e ≠ a) :
    Turn P w K (.Tuple elts kk tpos) (IteT K a) [e, it] e (fun i h => (∃ old, IsEnum h e it ((i : Nat) : Int) old) ∧ h.IsTupleIter it a i ∧ e ≠ it) where
  mem := by simp
  obj := fun i h st b hb => by
    obtain ⟨⟨old, he⟩, ⟨o, ho, hc, hd⟩, _⟩ := st
    have e' : b = e ∨ b = it := by simpa using hb
    rcases e' with z | z
    · rw [z]; exact ⟨_, he, fun v q => nomatch q⟩
    · rw [z]; exact ⟨o, ho, fun v q => by rw [hd] at q; cases q⟩
  keep := fun i h h' st k => let ⟨⟨old, he⟩, hi, hne⟩ := st; ⟨⟨old, k e (by simp) _ he⟩, hi.at fun o q => k it (by simp) o q, hne⟩
  item := by
    intro X hP hw hK hc i pins s σ H E I hf st hg
    subst hP hw hK
    obtain ⟨⟨old, he⟩, hit, hne⟩ := st
    obtain ⟨xs, x, hq, hx⟩ := hg
    obtain ⟨its, rv, p, hz⟩ := I.tuple hq
    obtain ⟨u, hu, ru⟩ := rv.get hx
    have hel : e < s.heap.objs.size := Heap.lt_size he
    have hil : it < s.heap.objs.size := by obtain ⟨_, q, _⟩ := hit; exact Heap.lt_size q
    have hilt : i < its.toArray.size := by simpa using (List.getElem?_eq_some_iff.mp hu).1
    refine wpAny_pyNext_enum_itemD (Draws.tuple (A := X.A.in1) (I.ok.hd hc) it a hai its.toArray) he ⟨hit, show s.heap.IsTuple a its.toArray from p⟩ hilt hne (by simp [hne, hae]) fun x' h' tk hP ho hit' hT hsz hk => ?_
    obtain rfl : x' = u := by
      have : its[i]? = some x' := by simpa using hP
      rw [hu] at this; exact (Option.some.inj this).symm
    refine ⟨_, rfl, wpAny_letOwnedTupleGo_enum (s := { s with heap := h', toks := tk + 1 }) ho fun h'' he' sb => ?_⟩
    have hT2 : h''.get? s.heap.objs.size = some { cls := .type "tuple", data := .seq #[.int i tk, x'] } := (sb.2 _ (Nat.ne_of_gt hel)).trans hT
    have new : ObjOk X.prog X.w (upd H s.heap.objs.size (.tup [.int (i : Nat), x])) h'' s.heap.objs.size (.tup [.int (i : Nat), x]) :=
      ⟨by show 2 ≤ sizeLine; decide, [.int i tk, x'], .cons ⟨_, rfl⟩ (.cons ru .nil), ⟨_, hT2, rfl, _, rfl⟩⟩
    have I1 : Inv X pins σ (upd H s.heap.objs.size (.tup [.int (i : Nat), x])) { s with heap := h'', toks := tk + 1 } :=
      I.turnedNew (ch := [e, it]) (fun b ob hb q => (sb.2 b (fun z => hb (by simp [z]))).trans (hk b ob (fun z => hb (by simp [z])) (fun z => hb (by simp [z])) q)) hf (Nat.le_refl _) new
    refine ⟨.ref s.heap.objs.size, _, I1, rfl, ⟨_, x, rfl, I.hok.fresh (Nat.le_refl _), rfl, fun ys hy => by rw [I.tuple_inj hy hq]; exact hx⟩, ⟨⟨x', ?_⟩, hit'.1.at fun o q => (sb.2 it (Ne.symm hne)).trans q, hne⟩, fun b hb => ?_⟩
    · have e1 : ((i + 1 : Nat) : Int) = (i : Int) + 1 := by omega
      rw [e1]; exact he'
    · have hb' : b < s.heap.objs.size := by
        have e' : b = e ∨ b = it := by simpa using hb
        rcases e' with z | z
        · rw [z]; exact hel
        · rw [z]; exact hil
      rw [upd_ne (Nat.ne_of_lt hb')]
      exact (hf b hb).1
  done := by
    intro X hP hw hK hc i pins s σ H E I hf st hg
    subst hP hw hK
    obtain ⟨⟨old, he⟩, hit, hne⟩ := st
    obtain ⟨xs, hq, hx⟩ := hg
    obtain ⟨its, rv, p, hz⟩ := I.tuple hq
    obtain ⟨f0, f1, f2, f3, f4, f5⟩ := hf it (by simp)
    have hl := rv.length
    exact enum_endT (I.ok.hd hc) he hit (show s.heap.IsTuple a its.toArray from p) (by simp; omega) fun h' eb => ⟨rfl, I.turned (t' := s.toks) (fun b o hb q => eb b o hb q) f0 f1 f3 f4 f5⟩
  self := fun A i s Q E st h => let ⟨⟨_, he⟩, _⟩ := st; wpAny_pyIter_enum he h
theorem meets_enumT (l : Addr) (items : Array Value) (n : Nat) (dct : Option Addr) (sl : Array (Option Value)) :
    Meets (Builtin.«enumerate.__new__» ⟨[.type "enumerate", .ref l], []⟩) (fun _ R s => s.heap.get? l = some { cls := .type "tuple", dict := dct, data := .seq items n, slots := sl } ∧
      R (.ok (.ret (.ref (s.heap.push { cls := .type "tuple_iterator", data := .fields #[.ref l, .int 0 0] }).objs.size)))
        { s with heap := (s.heap.push { cls := .type "tuple_iterator", data := .fields #[.ref l, .int 0 0] }).push { cls := .type "enumerate", data := .fields #[.none, .bool false, .ref s.heap.objs.size, rawInt 0, .none, .none] } }) :=
  .of_wp fun prog w A R s h => by
    obtain ⟨hp, g, d, tk, os⟩ := s; obtain ⟨hl, h⟩ := h
    have hsub := sub_enumerate
    have hL : Heap.IsTuple (Shared.heap ⟨hp, g, d, tk, os⟩) l items := ⟨_, hl, rfl, n, rfl⟩
    wp_walk using wpAny_loadPart' hl
    refine wpAny_stack_any fun st => wpAny_pure ?_
    split
    · rename_i c _ _ _ _ _
      cases (c == Value.type "enumerate")
      · wp_walk using wpAny_loadPart' hl, wpAny_pyIter_tuple hL
        exact ⟨_, rfl, h⟩
      · wp_walk using wpAny_loadPart' hl, wpAny_pyIter_tuple hL
        exact ⟨_, rfl, h⟩
    · wp_walk using wpAny_loadPart' hl, wpAny_pyIter_tuple hL
      exact ⟨_, rfl, h⟩
theorem call_enumT {prog : Program} {w : World} {A : Around} {E : Value → Shared → Prop} {s : Shared} {l : Addr} {items : Array Value} {Q : Value → Shared → Prop} (hL : s.heap.IsTuple l items)
    (h : ∀ h', IsEnum h' (s.heap.objs.size + 1) s.heap.objs.size 0 .none → h'.IsTupleIter s.heap.objs.size l 0 → h'.objs.size = s.heap.objs.size + 2 →
      (∀ b o, s.heap.get? b = some o → h'.get? b = some o) → Q (.ref (s.heap.objs.size + 1)) { s with heap := h' }) :
    wpAny (model prog w) A (call (.type "enumerate") [.ref l]) Q E s := by
  obtain ⟨⟨c, dct, dt, sl⟩, hl, hc, n, hd⟩ := hL
  replace hc : c = .type "tuple" := hc
  replace hd : dt = .seq items n := hd
  subst hc hd
  refine callType_new F.called_enumerate (by decide) (F.typeCall_enumerate_1 _) (F.newCall_enumerate_1 _) (fun obj => F.args_object_init_2 obj _) F.entry_enumerate_new
    (meets_enumT l items n dct sl) ⟨hl, ?_⟩
  have hz : (s.heap.push { cls := .type "tuple_iterator", data := .fields #[.ref l, .int 0 0] }).objs.size = s.heap.objs.size + 1 := Heap.size_push ..
  show _ ∧ _
  rw [hz]
  have he : IsEnum ((s.heap.push { cls := .type "tuple_iterator", data := .fields #[.ref l, .int 0 0] }).push
      { cls := .type "enumerate", data := .fields #[.none, .bool false, .ref s.heap.objs.size, rawInt 0, .none, .none] }) (s.heap.objs.size + 1) s.heap.objs.size 0 .none := by
    have := Heap.get?_push_size (s.heap.push { cls := .type "tuple_iterator", data := .fields #[.ref l, .int 0 0] })
      (o := { cls := .type "enumerate", data := .fields #[.none, .bool false, .ref s.heap.objs.size, rawInt 0, .none, .none] }) rfl
    rw [hz] at this; exact this
  refine ⟨⟨_, he, rfl⟩, h _ he ⟨_, Heap.get?_push_of_some _ (Heap.get?_push_size _ rfl), rfl, rfl⟩ (by rw [Heap.size_push, hz]) fun b o x => Heap.get?_push_of_some _ (Heap.get?_push_of_some _ x)⟩
theorem pi_enumT {X : Cx} {e : Expr} {ta : TA} {p pos tpos : Pos} {elts : List Expr} {kk : Nat} (hg : Gl X "enumerate") (hm : X.mg "enumerate" = none) (ha : PA X [e] ta) (hs : starEach [e] X.env = [(false, eval e X.env)] := by rfl) :
    PI X (.Tuple elts kk tpos) (.Call (.Name "enumerate" p) [e] [] pos) (iEnumT X.K ta) := by
  refine ⟨fun pins s σ H R I h => ?_⟩
  refine Call_ (ld_blt I hg hm boot_enumerate (PyProof.Rows.callWith_type1 (thn (ha.run pos pins s σ H _ I h) fun us s1 ⟨vs, H1, I1, r1, q1⟩ => ?_) hs rfl))
  obtain ⟨a, xs, ex, hq, q⟩ := q1
  subst ex
  cases r1 with
  | cons r rr =>
    cases rr
    cases r
    obtain ⟨its, rv, p', hz⟩ := I1.tuple hq
    have hal : a < s1.heap.objs.size := by obtain ⟨_, y, _⟩ := p'; exact Heap.lt_size y
    refine call_enumT (show s1.heap.IsTuple a its.toArray from p') fun h' he hit hsz hk => wpAny_pyIter_enum he ?_
    have I2 : Inv X pins σ H1 { s1 with heap := h' } := I1.kept (t' := s1.toks) hk
    refine ⟨s1.heap.objs.size + 1, [s1.heap.objs.size + 1, s1.heap.objs.size], _, _, H1, rfl, I2, turn_enumT a (s1.heap.objs.size + 1) s1.heap.objs.size (Nat.ne_of_lt hal) (Nat.ne_of_gt (Nat.lt_succ_of_lt hal)), ⟨⟨.none, he⟩, hit, Nat.succ_ne_self _⟩, fun b hb => ?_, q⟩
    have e' : b = s1.heap.objs.size + 1 ∨ b = s1.heap.objs.size := by simpa using hb
    have hle : s1.heap.objs.size ≤ b := by
      rcases e' with z | z
      · rw [z]; exact Nat.le_add_right _ _
      · rw [z]; exact Nat.le_refl _
    exact I1.fpOk hle (I1.hok.fresh hle)
end DL
namespace DL
open PySem PySem.W PySem.Calls PyProof.Rows PyProof.V PySem.Spec L2 DT
theorem meetsPop1 {prog : Program} {w : World} {K : Type} [DecidableEq K] {knd : HeapKind prog w K} {d b : Addr} {k : K} (hd : (d == sysModules) = false) :
    MeetsIn prog w (Builtin.«dict.pop» ⟨[.ref d, .ref b], []⟩) (fun A R s => ∃ xs, knd.room A.in1 ∧ knd.is s.heap k b ∧ s.heap.DictOfH knd d xs ∧ xs.length ≤ sizeLine ∧
      ∃ p, atKey xs k = some p ∧ ∀ h' tk, h'.DictOfH knd d (dropH xs k) → Heap.SameBut d s.heap h' → R (.ok (.ret p.2)) { s with heap := h', toks := tk }) :=
  .of_wp fun A R s ⟨xs, hu, hkey, hm, hsz, p0, hp0, hsome⟩ => by
    obtain ⟨o, es, ep, ho, hc, hdat, he, his, hn⟩ := id hm
    have hes : es.size = xs.length := size_of_entries he
    have hpart : (keyPart (Value.ref b)).isSome = false := rfl
    unfold Builtin.«dict.pop»
    refine wpAny_bind ?_
    unfold Builtin.Dict.keyAndDefault
    refine wpAny_bind (wpAny_notOrdered_dict hm.typeIs ?_)
    show wpAny _ _ (pure (d, Value.ref b, none)) _ _ s
    refine wpAny_pure ?_
    simp only [hpart, Bool.false_eq_true, if_false]
    refine wpAny_bind (wpAny_dictEntries ho hdat (wpAny_bind (wpAny_pure ?_)))
    cases hem : es.isEmpty with
    | true =>
      have h0 : xs = [] := by
        have z : es.size = 0 := by simpa using hem
        exact List.length_eq_zero_iff.mp (by omega)
      rw [h0] at hp0
      cases hp0
    | false =>
      simp only [Bool.false_eq_true, if_false]
      refine wpAny_bind (takeH hu hkey hm hsz (fun hno => ?_) fun p e hp hev h' hm' hs' => ?_)
      · rw [hno] at hp0; cases hp0
      · simp only [Option.isNone_some, Bool.false_eq_true, if_false]
        rw [hp0] at hp
        cases hp
        exact wpAny_bind (wpAny_letGo (wpAny_pure ⟨e.val, rfl, by rw [hev]; exact hsome h' _ hm' hs'⟩))
theorem pe_dpopT {X : Cx} {o e : Expr} {td ty : TE} {apos cpos : Pos} (hu : X.A.units + 1 < cLine) (ho : PE X o td) (he : PE X e ty) (m : M1 X o "pop" apos e cpos) : PE X (.Call (.Attribute o "pop" apos) [e] [] cpos) (tDPopT td ty) := by
  refine ⟨fun pins s σ H Q I h => ?_⟩
  refine wpAny_Call_method m.base m.few m.line PySem.F.plainAttrs_dict PySem.F.slot_dict_pop PySem.F.type_dict_pop (thn (ho.run pins s σ H _ I h) fun u s1 ⟨x, H1, I1, rx, a, ex, d, q1⟩ => ?_)
  subst ex
  obtain rfl : u = Value.ref a := rx
  obtain ⟨t1, t2, _⟩ := isD_at I1 d
  refine ⟨t1, t2, ?_⟩
  rw [m.trees]
  refine Calls.callWith_builtin rfl (Calls.evalArgs_plain (Calls.spliced_cons (thn (he.run pins s1 σ H1 _ I1 q1) fun iv s2 ⟨y, H2, I2, ry, kvs, k, b, v, ea, ey, eb, l, q2⟩ => Calls.spliced_nil ?_)))
  subst ey
  obtain rfl : iv = Value.ref b := ry
  obtain ⟨z, hd, xs', rel, dd⟩ := dt_of I2.hok ea
  have hz : xs'.length ≤ sizeLine := by rw [← Paired.length rel]; exact z
  have r := rel.val k
  rw [l] at r
  obtain ⟨p, hp, rv⟩ : ∃ p, atKey xs' k = some p ∧ RelV v p.2 := by
    cases ev : atKey xs' k with
    | none => rw [ev] at r; exact (show False from r).elim
    | some p => rw [ev] at r; exact ⟨p, rfl, r⟩
  refine call_meetsIn PySem.F.slot_dict_pop dd.typeIs PySem.F.entry_dict_pop (PySem.F.args_dict_pop_2 _ _) (meetsPop1 (knd := tupleKind (mixKind X.prog X.w)) (k := k) hd)
    ⟨xs', tupleKind_room_in1 hu, key_of I2.hok eb, dd, hz, p, hp, fun h' tk dd' hs => ?_⟩
  obtain ⟨o, es, ep, hq, h2, h3, h4, _, h5⟩ := dd'
  have I3 : Inv X pins σ (upd H2 a (.dT (dropK kvs k))) { s2 with heap := h', toks := tk } :=
    d_write I2 (by rw [ea]; exact True.intro) hs ⟨o, hq⟩ ⟨Nat.le_trans (dropK_le kvs k) z, hd, _, (L2.DX.KT_drop k rel).keeps (fun c ys ec => (by rw [upd_ne (ne_of ec ea (fun z => nomatch z))]; exact ec)), o, es, ep, hq, h2, h3, h4, h5⟩
  exact ⟨v, _, I3, rv, q2⟩
end DL
namespace DL
open PySem PySem.W PySem.Calls PyProof.Rows PyProof.V PySem.Spec L2 DT
theorem ne_same {prog : Program} {w : World} {A : Around} {E : Value → Shared → Prop} {s : Shared} {nm : String} {a b : Addr} {oa ob : Obj} {es es' : Array DictEntry} {ep ep' : Nat} {Q : Bool → Shared → Prop} (ha : (a == sysModules) = false) (hb : (b == sysModules) = false)
    (hoa : s.heap.get? a = some oa) (hda : oa.data = .dict es ep) (hob : s.heap.get? b = some ob) (hdb : ob.data = .dict es' ep') (h0 : es'.size = 0) (h : Q (es.size == 0) s) :
    wpAny (model prog w) A (Builtin.Dict.samePairs nm a b) Q E s := by
  unfold Builtin.Dict.samePairs Builtin.Dict.showsAll
  rw [if_neg (show ¬ (a == sysModules) = true by rw [ha]; exact Bool.false_ne_true), if_neg (show ¬ (b == sysModules) = true by rw [hb]; exact Bool.false_ne_true)]
  refine wpAny_bind (wpAny_pure (wpAny_bind (wpAny_pure ?_)))
  refine wpAny_bind (wpAny_dictEntries hoa hda ?_)
  dsimp only
  refine wpAny_bind (wpAny_dictEntries hob hdb ?_)
  by_cases hsz : es.size = es'.size
  case neg =>
    rw [if_pos (by simpa using hsz)]
    have hbf : (es.size == 0) = false := by rw [h0] at hsz; simpa using hsz
    rw [hbf] at h
    exact wpAny_bind (wpAny_rule (wpAny_pure h))
  case pos =>
    have hz : es.size = 0 := by omega
    have h' : Q true s := by simpa [hz] using h
    rw [if_neg (by rw [hsz]; simp)]
    refine wpAny_bind (wpAny_dictEpoch hoa hda ?_)
    refine wpAny_bind ?_
    rw [Std.Legacy.Range.forIn_eq_forIn_range']
    simp only [Std.Legacy.Range.size, Nat.sub_zero, Nat.add_sub_cancel, Nat.div_one]
    have e : es.size - 0 = 0 := by omega
    simp only [hz, List.range'_zero, List.forIn_nil]
    exact wpAny_pure (by first | exact wpAny_pure h' | (dsimp only; exact wpAny_pure h') | simpa using wpAny_pure h')
theorem op_neDT {X : Cx} (hu : X.A.units + 65 < cLine) : OpR X (compareOp .NotEq) rNeDT := by
  intro pins s σ H x y v u Q I rx ry h
  obtain ⟨a, b, ks, rfl, rfl, ea, eb, q⟩ := h
  obtain rfl : v = Value.ref a := rx
  obtain rfl : u = Value.ref b := ry
  obtain ⟨za, ya, va, ra, da⟩ := dt_of I.hok ea
  obtain ⟨zb, yb, vb, rb, db⟩ := dt_of I.hok eb
  have ta := da.typeIs
  have tb := db.typeIs
  obtain ⟨oa, es, ep, hoa, _, hda, hea, _⟩ := da
  obtain ⟨ob, es', ep', hob, _, hdb, heb, _⟩ := db
  have l1 : es.size = ks.length := by rw [size_of_entries hea]; exact (Paired.length ra).symm
  have l2 : es'.size = 0 := by rw [size_of_entries heb]; exact (Paired.length rb).symm
  refine wpAny_richCompare_same_room (op := .NotEq) ta tb PySem.F.slot_dict_ne (wpAny_call_entry PySem.F.slot_dict_ne ta PySem.F.entry_dict_ne ?_ (PySem.F.args_dict_ne_2 _ _)) (by omega)
  show wpAny _ _ (Builtin.Dict.dictSlotArgs "__ne__" ⟨[.ref a, .ref b], []⟩ >>= _) _ _ s
  refine wpAny_bind ?_
  unfold Builtin.Dict.dictSlotArgs
  refine wpAny_bind (wpAny_notOrdered_dict ta ?_)
  show wpAny _ _ (pure (Value.ref a, Value.ref b)) _ _ s
  refine wpAny_pure ?_
  refine wpAny_bind (wpAny_isInstance (T := "dict") tb PySem.F.sub_dict_dict ?_)
  simp only [Bool.not_true, Bool.false_eq_true, if_false]
  refine wpAny_bind (wpAny_pure (wpAny_bind (wpAny_pure ?_)))
  refine wpAny_bind (ne_same ya yb hoa hda hob hdb l2 ?_)
  refine wpAny_pure ⟨_, rfl, (fun x => nomatch x), ?_⟩
  have e : ((es.size == 0) == false) = !ks.isEmpty := by
    rw [l1]
    cases ks <;> simp
  rw [e]
  exact ⟨.bl (!ks.isEmpty), H, I, rfl, q⟩
end DL
namespace DL
open PySem PySem.W PySem.Calls PyProof.Rows PyProof.V PySem.Spec L2 DT
theorem pe_dget1N {X : Cx} {o e : Expr} {td ty : TE} {apos cpos : Pos} (hu : X.A.units + 1 < cLine) (ho : PE X o td) (he : PE X e ty) (m : M1 X o "get" apos e cpos) : PE X (.Call (.Attribute o "get" apos) [e] [] cpos) (tDGet1N td ty) := by
  refine ⟨fun pins s σ H Q I h => ?_⟩
  refine wpAny_Call_method m.base m.few m.line PySem.F.plainAttrs_dict PySem.F.slot_dict_get PySem.F.type_dict_get (thn (ho.run pins s σ H _ I h) fun u s1 ⟨x, H1, I1, rx, a, ex, d, q1⟩ => ?_)
  subst ex
  obtain rfl : u = Value.ref a := rx
  obtain ⟨t1, t2, _⟩ := isD_at I1 d
  refine ⟨t1, t2, ?_⟩
  rw [m.trees]
  refine Calls.callWith_builtin rfl (Calls.evalArgs_plain (Calls.spliced_cons (thn (he.run pins s1 σ H1 _ I1 q1) fun iv s2 ⟨y, H2, I2, ry, g⟩ => Calls.spliced_nil ?_)))
  rcases g with ⟨ov, g, q2⟩ | ⟨rfl, ea, q2⟩
  · exact d_get1 hu I2 g ry fun w' s3 I3 rw' => ⟨_, H2, I3, rw', q2⟩
  · obtain rfl : iv = Value.none := ry
    obtain ⟨z, hd, xs, rel, dd⟩ := dt_of I2.hok ea
    have tt := dd.typeIs
    obtain ⟨o, es, ep, hob, hx, hdt, hea, _⟩ := dd
    have l1 : es.size = 0 := by rw [size_of_entries hea]; exact (Paired.length rel).symm
    have e0 : es = #[] := Array.eq_empty_of_size_eq_zero l1
    subst e0
    refine call_meetsIn PySem.F.slot_dict_get tt PySem.F.entry_dict_get (PySem.F.args_dict_get_2 _ _) (meets_dict_get (noneKind X.prog X.w) a (k := none) rfl hd) ⟨fun _ => none, ⟨o, #[], ep, hob, hx, hdt, fun e he => by simp at he, fun k => rfl⟩, ?_⟩
    exact ⟨.non, H2, I2.tok _, rfl, q2⟩
end DL
namespace DL
open PySem PySem.Spec PyProof.Rows L2
theorem nd_sub : ∀ {K ns : List Int}, K.Nodup → (∀ k ∈ K, k ∈ ns) → K.length ≤ ns.length ∧ (K.length = ns.length → ns.Perm K)
  | [], ns, _, _ => ⟨Nat.zero_le _, fun e => by rw [List.length_eq_zero_iff.mp e.symm]⟩
  | k :: K, ns, nd, h => by
    rw [List.nodup_cons] at nd
    have hk := h k List.mem_cons_self
    have hp := List.perm_cons_erase hk
    have hl := hp.length_eq
    rw [List.length_cons] at hl
    obtain ⟨h1, h2⟩ := nd_sub (K := K) (ns := ns.erase k) nd.2 fun x hx => by
      have hne : x ≠ k := fun e => nd.1 (e ▸ hx)
      exact (List.mem_erase_of_ne hne).mpr (h x (List.mem_cons_of_mem _ hx))
    rw [List.length_cons]
    exact ⟨by omega, fun e => hp.trans ((h2 (by omega)).cons k)⟩
theorem nd_count {K ns : List Int} (nd : K.Nodup) (h : ∀ k, k ∈ K ↔ k ∈ ns) : K.length = ns.length ↔ ns.Nodup := by
  obtain ⟨h1, h2⟩ := nd_sub nd fun k hk => (h k).mp hk
  constructor
  · intro e; exact (h2 e).symm.nodup nd
  · intro hn
    have := (nd_sub hn fun k hk => (h k).mpr hk).1
    omega
theorem pe_lenSetT {X : Cx} {e : Expr} {ta : TE} {p1 p2 pos1 pos2 : Pos} (h1 : Gl X "len") (m1 : X.mg "len" = none) (h2 : Gl X "set") (m2 : X.mg "set" = none) (he : PE X e ta) (hc : X.calm = true := by rfl)
    (na : starEach [e] X.env = (false, eval e X.env) :: starEach [] X.env := by rfl) : PE X (.Call (.Name "len" p1) [.Call (.Name "set" p2) [e] [] pos2] [] pos1) (tLenSetT X.K ta) := by
  refine ⟨fun pins s σ H Q I h => ?_⟩
  refine Call_ (ld_blt I h1 m1 boot_len ?_)
  refine PyProof.Rows.callWith_builtin1 (PyProof.Rows.args_cons ?_ rfl) rfl rfl
  refine Call_ (ld_blt I h2 m2 boot_set ?_)
  refine PyProof.Rows.callWith_type1 (PyProof.Rows.args_cons (thn (he.run pins s σ H _ I h) fun v s1 ⟨x, H1, I1, r1, q1⟩ => PyProof.Rows.args_nil ?_) na) na rfl
  obtain ⟨l, ns, rfl, hq, hl, q1⟩ := q1
  cases r1
  obtain ⟨its, r, pl, hz⟩ := I1.tuple hq
  refine call_set_tupI ns (I1.ok.hd hc) pl (by simpa using RZ.intsAre_vals r) (by unfold scanBound; omega) fun h' tk c hS _ hk => ?_
  refine PyProof.Rows.args_nil ?_
  obtain ⟨o, es, ep, t, ho, hex, hd, _, hnd, hmem, hsz, hf, hn, _⟩ := hS
  have I2 : Inv X pins σ H1 { s1 with heap := h', toks := tk } := I1.kept fun b o e => hk b o e
  have hcnt : c = ns.length ↔ ns.Nodup := by
    have := nd_count hnd (ns := ns) fun k => by rw [← hmem k, decide_eq_true_iff]
    rw [List.length_map, Array.length_toList, hn] at this
    exact this
  exact call_len_set ho hex hd hf (by omega) ⟨.int c, H1, I2.tok _, ⟨_, by rw [hn]⟩, q1 c hcnt⟩
end DL
namespace DL
open PySem PySem.W PySem.Calls PyProof.Rows PyProof.V PySem.Spec
theorem merge_raw {prog : Program} {w : World} {A : Around} {E : Value → Shared → Prop} {s : Shared} {nm : String} {d o : Addr} {es : Array DictEntry} {epd ep : Nat} {Q : Unit → Shared → Prop} (hdo : d ≠ o) (hoS : (o == sysModules) = false)
    (hd : s.heap.DictRaw d #[] epd) (ho : s.heap.DictRaw o es ep) (hsz : es.size ≤ sizeLine) (hk : ∀ e ∈ es.toList, KeyApart s es e) (href : ∀ e ∈ es.toList, ∃ b, e.key = .ref b)
    (hQ : ∀ h' ep', h'.DictRaw d es ep' → Heap.SameBut d s.heap h' → Q () { s with heap := h' }) :
    wpAny (model prog w) A (Builtin.Dict.mergeDict nm d o) Q E s := by
  obtain ⟨od, hod, hcd, hdd⟩ := id hd
  obtain ⟨oo, hoo, hco, hdo'⟩ := id ho
  unfold Builtin.Dict.mergeDict
  rw [if_neg (by simpa using hdo)]
  unfold Builtin.Dict.showsAll
  rw [if_neg (by rw [hoS]; exact Bool.false_ne_true)]
  refine wpAny_bind (wpAny_pure ?_)
  refine wpAny_bind (wpAny_dictEntries hoo hdo' ?_)
  dsimp only
  by_cases h0 : es.size = 0
  · obtain rfl : es = #[] := Array.eq_empty_of_size_eq_zero h0
    rw [if_neg (by simp)]
    refine wpAny_bind (wpAny_dictEpoch hoo hdo' ?_)
    refine wpAny_bind (wpAny_dictEntries hoo hdo' ?_)
    refine wpAny_bind ?_
    rw [Std.Legacy.Range.forIn_eq_forIn_range']
    simp only [Std.Legacy.Range.size, Nat.sub_zero, Nat.add_sub_cancel, Nat.div_one, List.size_toArray, List.length_nil, List.range'_zero, List.forIn_nil]
    exact wpAny_pure (wpAny_pure (hQ s.heap epd hd (Heap.SameBut.refl _ _)))
  · have few : (decide (es.size ≤ 8) && es.all fun e => (keyPart e.key).isSome) = false := by
      have hl : 0 < es.size := Nat.pos_of_ne_zero h0
      obtain ⟨b, hb⟩ := href es[0] (Array.mem_toList_iff.mpr (Array.getElem_mem hl))
      have : (es.all fun e => (keyPart e.key).isSome) = false := by
        rw [Array.all_eq_false]
        exact ⟨0, hl, by rw [hb]; simp [keyPart]⟩
      rw [this, Bool.and_false]
    rw [if_pos (by rw [few]; rfl)]
    refine wpAny_bind (wpAny_dictEntries hod hdd ?_)
    rw [if_pos (by rfl)]
    refine wpAny_bind (wpAny_entriesForEmpty_raw hoo hdo' hk ?_)
    rw [if_pos (by simpa using h0)]
    refine wpAny_bind (wpAny_updateDictKeysTo hod hdd (wpAny_pure (hQ _ (epd + 1) ⟨_, Heap.get?_update_self _ hod (Obj.isFreed_of_dict (Obj.data_mapDictKeys hdd _)), hcd.mapDictKeys _,
          Obj.data_mapDictKeys hdd _⟩ (Heap.SameBut.update ..))) (by omega))
theorem call_dict_raw {prog : Program} {w : World} {A : Around} {E : Value → Shared → Prop} {s : Shared} {o : Addr} {es : Array DictEntry} {ep : Nat} {Q : Value → Shared → Prop} (hoS : (o == sysModules) = false) (ho : s.heap.DictRaw o es ep) (hsz : es.size ≤ sizeLine)
    (hk : ∀ e ∈ es.toList, KeyApart s es e) (href : ∀ e ∈ es.toList, ∃ b, e.key = .ref b)
    (h : ∀ h' ep', h'.DictRaw s.heap.objs.size es ep' → (∀ b o, s.heap.get? b = some o → h'.get? b = some o) → Q (.ref s.heap.objs.size) { s with heap := h' }) :
    wpAny (model prog w) A (call (.type "dict") [.ref o]) Q E s := by
  refine callType_codes (Q₁ := fun obj s₁ => obj = .ref s.heap.objs.size ∧ s₁ = { s with heap := s.heap.push { cls := .type "dict", data := .dict #[] } }) F.kt_called_dict (F.kt_typeCall_dict_1 _) F.entry_dict_init (kt_code_dict_new _ ⟨rfl, rfl⟩) ?_
  rintro obj s₁ ⟨rfl, rfl⟩
  have hnew : (s.heap.push { cls := .type "dict", data := .dict #[] }).DictRaw s.heap.objs.size #[] 0 := ⟨_, Heap.get?_push_size _ rfl, ⟨rfl, rfl, rfl⟩, rfl⟩
  have ho' : (s.heap.push { cls := .type "dict", data := .dict #[] }).DictRaw o es ep := ho.push _
  have hdo : s.heap.objs.size ≠ o := by
    obtain ⟨_, hg, _⟩ := ho
    exact fun e => absurd (Heap.lt_size hg) (by rw [e]; exact Nat.lt_irrefl _)
  refine ⟨hnew.typeIs, F.args_dict_init_2 _ _, ?_⟩
  unfold Builtin.«dict.__init__»
  refine wpAny_bind ?_
  unfold Builtin.Dict.selfAndRest
  refine wpAny_bind (wpAny_notOrdered_dict hnew.typeIs ?_)
  show wpAny _ _ (pure (s.heap.objs.size, [Value.ref o])) _ _ _
  refine wpAny_pure ?_
  show wpAny _ _ (Builtin.Dict.updateFrom "dict.__init__" s.heap.objs.size (.ref o) [] .none) _ _ _
  unfold Builtin.Dict.updateFrom
  refine wpAny_bind (wpAny_typeOf ho'.typeIs ?_)
  rw [if_neg (by decide)]
  refine wpAny_bind ?_
  unfold Builtin.Dict.merge
  refine wpAny_bind ?_
  unfold Builtin.Dict.readDirectly
  refine wpAny_bind (wpAny_isInstance ho'.typeIs isSubtype_dict_dict ?_)
  simp only [Bool.not_true, Bool.false_eq_true, if_false]
  refine wpAny_bind (wpAny_specialOf ho'.typeIs F.slot_dict_iter.lookup (wpAny_pure ?_))
  simp only [beq_self_eq_true, if_true]
  refine wpAny_bind (wpAny_pure ?_)
  refine merge_raw hdo hoS hnew ho' hsz (fun e he => ?_) href fun h' ep' hd' hs' => ?_
  · rcases hk e he with q | ⟨a, e1, ⟨ob, e2, e3⟩, e4⟩
    · exact .inl q
    · exact .inr ⟨a, e1, ⟨ob, Heap.get?_push_of_some _ e2, e3⟩, e4⟩
  show wpAny _ _ (Builtin.Dict.addKeywords s.heap.objs.size [] >>= _) _ _ _
  exact wpAny_bind (wpAny_pure (wpAny_pure ⟨rfl, h h' ep' hd' fun b ob e => hs'.extBut b ob (Nat.ne_of_lt (Heap.lt_size e)) (Heap.get?_push_of_some _ e)⟩))
end DL
namespace DL
open PySem PySem.W PySem.Calls PyProof.Rows PyProof.V PySem.Spec L2
def hsh (i j : Nat) : Int := reduceHash (Builtin.Tuple.tupleHashOf [hashInt (i : Int), hashInt (j : Int)])
theorem hsh_inj {i j k l : Nat} (hi : i < 8) (hj : j < 8) (hk : k < 8) (hl : l < 8) (h : hsh i j = hsh k l) : i = k ∧ j = l := by
  have key : ∀ i ∈ List.range 8, ∀ j ∈ List.range 8, ∀ k ∈ List.range 8, ∀ l ∈ List.range 8, hsh i j = hsh k l → i = k ∧ j = l := by decide +kernel
  exact key i (List.mem_range.mpr hi) j (List.mem_range.mpr hj) k (List.mem_range.mpr hk) l (List.mem_range.mpr hl) h
theorem hash2 (P : Program) (w : World) (i j : Nat) : (tupleKind (mixKind P w)).hash [.inl (i : Int), .inl (j : Int)] = hsh i j := rfl
theorem pe_dictCopy {X : Cx} {e : Expr} {ta : TE} {p1 pos1 : Pos} (hc : X.calm = true) (hu : X.A.units + 65 < cLine) (h1 : Gl X "dict") (m1 : X.mg "dict" = none) (ha : PE X e ta) (na : starEach [e] X.env = (false, eval e X.env) :: starEach [] X.env := by rfl) :
    PE X (.Call (.Name "dict" p1) [e] [] pos1) (tDictCopy ta) := by
  refine ⟨fun pins s σ H Q I h => ?_⟩
  refine Call_ (ld_blt I h1 m1 PyProof.Rows.boot_dict ?_)
  refine PyProof.Rows.callWith_type1 (PyProof.Rows.args_cons (thn (ha.run pins s σ H _ I h) fun v s1 ⟨x, H1, I1, r1, q1⟩ => PyProof.Rows.args_nil ?_) na) na rfl
  obtain ⟨a, kvs, rfl, ea, hsm, q⟩ := q1
  obtain rfl : v = Value.ref a := r1
  obtain ⟨z, y, xs, rel, o, es, ep, h1', h2', h3', h4', h5'⟩ := (show ObjOk X.prog X.w H1 s1.heap a (.dT kvs) from I1.hok a _ ea)
  obtain ⟨z2, y2, xs2, rel2, dd⟩ := dt_of I1.hok ea
  have hlen : es.size = kvs.length := by rw [size_of_entries h4']; exact (Paired.length rel).symm
  have mem : ∀ {l : List (List Key × V)} {m : List (List Key × Addr × Value)}, Paired (fun (p : List Key × V) (q : List Key × Addr × Value) => p.1 = q.1 ∧ H1 q.2.1 = some (.tup (p.1.map kV)) ∧ RelV p.2 q.2.2) l m → ∀ x ∈ m, ∃ p ∈ l, p.1 = x.1 ∧ H1 x.2.1 = some (.tup (p.1.map kV)) := by
    intro l m q
    induction q with
    | nil => intro x hx; exact nomatch hx
    | @cons p q ps qs hq t ih =>
      intro x hx
      rcases List.mem_cons.mp hx with e | hx
      · subst e; exact ⟨p, List.mem_cons_self, hq.1, hq.2.1⟩
      · obtain ⟨p', hp', r⟩ := ih x hx
        exact ⟨p', List.mem_cons_of_mem _ hp', r⟩
  have hnd : (es.toList.map (·.hash)).Nodup := by
    rw [h4', List.map_map]
    have e0 : (fun x : List Key × Addr × Value => (entryOfKey (tupleKind (mixKind X.prog X.w)) x).hash) = fun x => (tupleKind (mixKind X.prog X.w)).hash x.1 := rfl
    show (xs.map fun x => (entryOfKey (tupleKind (mixKind X.prog X.w)) x).hash).Nodup
    rw [e0]
    have key : ∀ m : List (List Key × Addr × Value), (m.map (·.1)).Nodup → (∀ x ∈ m, small2 x.1) → (m.map fun x => (tupleKind (mixKind X.prog X.w)).hash x.1).Nodup := fun m => by
      induction m with
      | nil => intro _ _; exact List.nodup_nil
      | cons x m ih =>
        intro hn hs
        rw [List.map_cons, List.nodup_cons] at hn ⊢
        refine ⟨fun hin => ?_, ih hn.2 fun y hy => hs y (List.mem_cons_of_mem _ hy)⟩
        obtain ⟨y, hy, ey⟩ := List.mem_map.mp hin
        obtain ⟨i, j, e1, hi, hj⟩ := hs x List.mem_cons_self
        obtain ⟨k, l, e2, hk, hl⟩ := hs y (List.mem_cons_of_mem _ hy)
        rw [e1, e2, hash2, hash2] at ey
        obtain ⟨rfl, rfl⟩ := hsh_inj hk hl hi hj ey
        exact hn.1 (List.mem_map.mpr ⟨y, hy, e2.trans e1.symm⟩)
    exact key xs h5' fun x hx => by
      obtain ⟨p, hp, e1, _⟩ := mem rel x hx
      rw [← e1]; exact hsm p hp
  have href : ∀ e ∈ es.toList, ∃ x ∈ xs, e = entryOfKey (tupleKind (mixKind X.prog X.w)) x := fun e he => by
    rw [h4'] at he
    obtain ⟨x, hx, rfl⟩ := List.mem_map.mp he
    exact ⟨x, hx, rfl⟩
  refine call_dict_raw y ⟨o, h1', h2', h3'⟩ (by omega) (fun e he => ?_) (fun e he => ?_) fun h' ep' hd' hk' => ?_
  · obtain ⟨x, hx, rfl⟩ := href e he
    obtain ⟨p, hp, e1, e2⟩ := mem rel x hx
    refine .inr ⟨x.2.1, rfl, (key_of I1.hok e2).typeIs, ?_⟩
    have := filter_le_one (fun e : DictEntry => e.hash) (entryOfKey (tupleKind (mixKind X.prog X.w)) x).hash es.toList hnd
    rw [← Array.length_toList, Array.toList_filter]
    exact this
  · obtain ⟨x, hx, rfl⟩ := href e he
    exact ⟨x.2.1, rfl⟩
  · obtain ⟨o', g1, g2, g3⟩ := hd'
    have hn := I1.hok.fresh (Nat.le_refl s1.heap.objs.size)
    have hne : (s1.heap.objs.size == sysModules) = false := beq_eq_false_iff_ne.mpr (Ne.symm (Nat.ne_of_lt I1.big))
    have new : ObjOk X.prog X.w (upd H1 s1.heap.objs.size (.dT kvs)) h' s1.heap.objs.size (.dT kvs) :=
      ⟨z, hne, xs, KT.keeps rel (fun c ys ec => by rw [upd_ne (ne_of_none ec hn)]; exact ec), o', es, ep', g1, g2, g3, h4', h5'⟩
    exact ⟨.ref s1.heap.objs.size, _, I1.laid (t' := s1.toks) hk' (Nat.le_refl _) new, rfl, q _ hn⟩
end DL
namespace DL
open PySem PySem.Spec PyProof.Rows L2
abbrev Tri := List Key × Addr × Value
def tri : List (List Key) → List Addr → List Value → List Tri
  | k :: ks, b :: bs, u :: us => (k, b, u) :: tri ks bs us
  | _, _, _ => []
theorem tri_len : ∀ {ks : List (List Key)} {bs : List Addr} {us : List Value}, bs.length = ks.length → us.length ≤ ks.length → (tri ks bs us).length = us.length
  | [], [], [], _, _ => rfl
  | [], [], _ :: _, _, h => by simp at h
  | _ :: _, [], _, h, _ => by simp at h
  | [], _ :: _, _, h, _ => by simp at h
  | _ :: _, _ :: _, [], _, _ => rfl
  | _ :: ks, _ :: bs, _ :: us, h1, h2 => by
    show (tri ks bs us).length + 1 = us.length + 1
    rw [tri_len (by simpa using h1) (by simpa using h2)]
theorem tri_get : ∀ {ks : List (List Key)} {bs : List Addr} {us : List Value} {i : Nat} {b : Addr} {u : Value}, bs.length = ks.length → bs[i]? = some b → us[i]? = some u → ∃ k, ks[i]? = some k ∧ (tri ks bs us)[i]? = some (k, b, u)
  | [], [], _, _, _, _, _, h, _ => by simp at h
  | _ :: _, [], _, _, _, _, h, _, _ => by simp at h
  | [], _ :: _, _, _, _, _, h, _, _ => by simp at h
  | _ :: _, _ :: _, [], _, _, _, _, _, h => by simp at h
  | k :: ks, c :: bs, x :: us, 0, b, u, _, h1, h2 => by
    simp at h1 h2; subst h1 h2
    exact ⟨k, rfl, rfl⟩
  | k :: ks, c :: bs, x :: us, i + 1, b, u, h, h1, h2 => by
    obtain ⟨k', e1, e2⟩ := tri_get (ks := ks) (bs := bs) (us := us) (i := i) (by simpa using h) (by simpa using h1) (by simpa using h2)
    exact ⟨k', by simpa using e1, by show (tri ks bs us)[i]? = _; exact e2⟩
theorem tri_keys : ∀ {ks : List (List Key)} {bs : List Addr} {us : List Value}, ((tri ks bs us).map (·.1)).Sublist ks
  | [], bs, us => by cases bs <;> exact List.nil_sublist _
  | k :: ks, [], us => List.nil_sublist _
  | k :: ks, b :: bs, [] => List.nil_sublist _
  | k :: ks, b :: bs, u :: us => (tri_keys (ks := ks) (bs := bs) (us := us)).cons_cons k
theorem tri_rel {H : Hp} : ∀ {ks : List (List Key)} {bs : List Addr} {vs : List V} {us : List Value}, Paired (fun k c => H c = some (.tup (k.map kV))) ks bs → Vals vs us →
    Paired (fun (p : List Key × V) (q : Tri) => p.1 = q.1 ∧ H q.2.1 = some (.tup (p.1.map kV)) ∧ RelV p.2 q.2.2) (ks.zip vs) (tri ks bs us) := by
  intro ks bs vs us h
  induction h generalizing vs us with
  | nil => intro _; exact .nil
  | @cons k b ks bs hk t ih =>
    intro r
    cases r with
    | nil => exact .nil
    | cons r rs => exact .cons ⟨rfl, hk, r⟩ (ih rs)
theorem tri_mem {H : Hp} : ∀ {ks : List (List Key)} {bs : List Addr} {us : List Value}, Paired (fun k c => H c = some (.tup (k.map kV))) ks bs → ∀ x ∈ tri ks bs us, H x.2.1 = some (.tup (x.1.map kV)) := by
  intro ks bs us h
  induction h generalizing us with
  | nil => intro x hx; exact nomatch hx
  | @cons k b ks bs hk t ih =>
    intro x hx
    cases us with
    | nil => exact nomatch hx
    | cons u us =>
      rcases List.mem_cons.mp (show x ∈ (k, b, u) :: tri ks bs us from hx) with rfl | hx
      · exact hk
      · exact ih x hx
theorem stored_nd : ∀ {ps acc : List Tri}, ((acc ++ ps).map (·.1)).Nodup → PySem.storedAllH acc ps = acc ++ ps
  | [], acc, _ => by rw [List.append_nil]; rfl
  | p :: ps, acc, h => by
    have hn : PySem.atKey acc p.1 = none := by
      unfold PySem.atKey
      rw [Option.map_eq_none_iff, List.find?_eq_none]
      intro x hx e
      rw [List.map_append, List.map_cons] at h
      have := (List.nodup_append.mp h).2.2 x.1 (List.mem_map_of_mem hx) p.1 List.mem_cons_self
      exact this (by simpa using e)
    show PySem.storedAllH (PySem.storedH acc p.1 p.2.1 p.2.2) ps = _
    rw [PySem.storedH_new hn, stored_nd (by rw [List.append_assoc]; exact h), List.append_assoc]
    rfl
theorem pe_dictZip {X : Cx} {e1 e2 : Expr} {ta tb : TE} {p1 p2 pos1 pos2 : Pos} (hc : X.calm = true) (hu : X.A.units + 65 < cLine) (h1 : Gl X "dict") (m1 : X.mg "dict" = none) (h2 : Gl X "zip") (m2 : X.mg "zip" = none) (ha : PE X e1 ta) (hb : PE X e2 tb)
    (nz : starEach [.Call (.Name "zip" p2) [e1, e2] [] pos2] X.env = (false, eval (.Call (.Name "zip" p2) [e1, e2] [] pos2) X.env) :: starEach [] X.env := by rfl)
    (na : starEach [e1, e2] X.env = (false, eval e1 X.env) :: starEach [e2] X.env := by rfl) (nb : starEach [e2] X.env = (false, eval e2 X.env) :: starEach [] X.env := by rfl) (hp : (backTo pos2 (starEach [e2] X.env)).any (·.1) = false := by rfl) :
    PE X (.Call (.Name "dict" p1) [.Call (.Name "zip" p2) [e1, e2] [] pos2] [] pos1) (tDictZip X.K ta tb) := by
  refine ⟨fun pins s σ H Q I h => ?_⟩
  refine Call_ (ld_blt I h1 m1 boot_dict ?_)
  refine PyProof.Rows.callWith_type1 (PyProof.Rows.args_cons ?_ nz) nz rfl
  refine Call_ (ld_blt I h2 m2 boot_zip ?_)
  refine PyProof.Rows.callWith_type1 (args_cons (thn (ha.run pins s σ H _ I h) fun v s1 ⟨x, H1, I1, r1, q1⟩ => one_arg hb I1 q1 (fun u s2 y H2 I2 r2 q => ?_) nb) na) na hp
  obtain ⟨a, b, ks, bs, vs, rfl, rfl, qa, qb, hk, nd, hkl, hvl, q⟩ := q
  obtain rfl : v = Value.ref a := r1
  obtain rfl : u = Value.ref b := r2
  obtain ⟨its, rv, p1, _⟩ := I2.list qa
  obtain ⟨its2, rv2, p2, _⟩ := I2.list qb
  have hl1 : bs.length = ks.length := (Paired.length hk).symm
  have li : its.length = ks.length := by rw [← rv.length, List.length_map, hl1]
  have li2 : its2.length = vs.length := rv2.length.symm
  refine call_zip_2 p1.isList p2.isList fun h' hz hTI hTO i1 i2 hsz hkeep => PyProof.Rows.args_nil ?_
  have D := PySem.W.ktu_apart s2.heap.objs.size a b p1.lt p2.lt
  have P := PySem.PairArg.zip (prog := X.prog) (w := X.w) (s2.heap.objs.size + 4) (s2.heap.objs.size + 2) (s2.heap.objs.size + 3) s2.heap.objs.size (s2.heap.objs.size + 1) a b D its.toArray its2.toArray
  have hmin : min its.toArray.size its2.toArray.size = its2.length := by
    rw [List.size_toArray, List.size_toArray, Nat.min_eq_right (by omega)]
  have hfresh : ∀ c, c ∈ [s2.heap.objs.size + 4, s2.heap.objs.size + 3, s2.heap.objs.size, s2.heap.objs.size + 1] → s2.heap.objs.size ≤ c := fun c hcm => by
    simp only [List.mem_cons, List.not_mem_nil, or_false] at hcm
    rcases hcm with q | q | q | q <;> omega
  refine PySem.call_dict_pairsH (knd := tupleKind (mixKind X.prog X.w)) (ps := tri ks bs its2) P (I2.ok.hd hc) (show X.A.units + 1 + 1 < cLine by omega)
    ⟨hz, hTI, ⟨_, _, hTO⟩, i1, i2, p1.isList.at fun o e => hkeep _ o e, p2.isList.at fun o e => hkeep _ o e⟩ ⟨?_, ?_⟩ ?_ (by rw [hmin]; have := rv2.length; unfold sizeLine; omega) ?_
  · rw [hmin, tri_len hl1 (by omega)]
  · rintro i key v ⟨e1, e2⟩
    have e1' : its[i]? = some key := by simpa using e1
    have e2' : its2[i]? = some v := by simpa using e2
    have hi : i < its.length := (List.getElem?_eq_some_iff.mp e1').1
    obtain ⟨c, hc'⟩ : ∃ c, bs[i]? = some c := ⟨bs[i]'(by omega), List.getElem?_eq_getElem _⟩
    obtain ⟨u, hu1, hu2⟩ := rv.get (i := i) (x := .ref c) (by rw [List.getElem?_map, hc']; rfl)
    rw [e1'] at hu1
    cases hu1
    obtain rfl : key = Value.ref c := hu2
    obtain ⟨k, _, hk2⟩ := tri_get hl1 hc' e2'
    exact ⟨k, c, hk2, rfl⟩
  · intro h'' hk'' x hx
    obtain ⟨o, items, n, g1, g2⟩ := key_of I2.hok (tri_mem hk x hx)
    have lt : x.2.1 < s2.heap.objs.size := Heap.lt_size g1
    refine ⟨o, items, n, hk'' _ _ ?_ ?_ (hkeep _ _ g1), g2⟩
    · have : x.2.1 < h'.objs.size := Heap.lt_size (hkeep _ _ g1)
      exact Nat.ne_of_lt this
    · intro hm
      exact absurd (hfresh _ hm) (Nat.not_le_of_lt lt)
  · intro h'' tk dd hk''
    have ndp : ((tri ks bs its2).map (·.1)).Nodup := tri_keys.nodup nd
    rw [stored_nd (acc := []) (by simpa using ndp), List.nil_append] at dd
    have hle : s2.heap.objs.size ≤ h'.objs.size := by rw [hsz]; omega
    have hn := I2.hok.fresh hle
    obtain ⟨o, es, ep, g1, g2, g3, g4, _, g5⟩ := dd
    have hne : (h'.objs.size == sysModules) = false := beq_eq_false_iff_ne.mpr (Ne.symm (Nat.ne_of_lt (Nat.lt_of_lt_of_le I2.big hle)))
    have new : ObjOk X.prog X.w (upd H2 h'.objs.size (.dT (ks.zip vs))) h'' h'.objs.size (.dT (ks.zip vs)) := by
      refine ⟨?_, hne, tri ks bs its2, KT.keeps (tri_rel hk rv2) (fun c ys ec => by rw [upd_ne (ne_of_none ec hn)]; exact ec), o, es, ep, g1, g2, g3, g4, g5⟩
      rw [List.length_zip]
      unfold sizeLine
      omega
    exact ⟨.ref h'.objs.size, _, I2.laid (t' := tk) (fun c o e => hk'' c o (fun hm => absurd (hfresh c hm) (Nat.not_le_of_lt (Heap.lt_size e))) (hkeep c o e)) hle new, rfl, q _ hn⟩
end DL
namespace DL
open PySem PySem.Spec PyProof.Rows L2
section
open PySem.W
theorem star2 {prog : Program} {w : World} {A : Around} {E : Value → Shared → Prop} {s : Shared} {l : Addr} {items : Array Value} {u0 : Value} {us : List Value} {Q : List Value → Shared → Prop} (hl : IsTup s.heap l items) (hh : A.handled = none) (e : items.toList = u0 :: us) (hz : items.size ≤ 16384)
    (h : ∀ (h' : Heap) (tk : Nat), (∀ b o, s.heap.get? b = some o → h'.get? b = some o) → Q [u0, .ref h'.objs.size] { s with heap := h'.push { cls := .type "list", data := .seq us.toArray }, toks := tk }) : wpAny (model prog w) A (unpackItems (.ref l) 2 (some 1)) Q E s := by
  have hlt : l ≠ s.heap.objs.size := by obtain ⟨o, ho, _⟩ := hl; exact Nat.ne_of_lt (Heap.lt_size ho)
  have hll : l < s.heap.objs.size := by obtain ⟨o, ho, _⟩ := hl; exact Heap.lt_size ho
  have hsz : items.size = us.length + 1 := by rw [← Array.length_toList, e]; rfl
  unfold unpackItems
  refine wpAny_bind ?_
  unfold notIterableAtAll
  refine wpAny_bind (wpAny_specialOf hl.typeIs slot_tuple_iter.lookup ?_)
  refine wpAny_pure ?_
  simp only [Bool.false_eq_true, if_false]
  refine wpAny_bind (wpAny_holding (iter_tuple hl ?_))
  refine wpAny_bind (wpAny_holding (draw_tuple hlt 1 0 _ _ ⟨_, Heap.get?_push_size _ rfl, rfl, rfl⟩ (hl.push _) (by omega) fun h₁ hit₁ hs₁ => ?_))
  have hl₁ : IsTup h₁ l items := (hl.push _).extBut hs₁.extBut hlt
  rw [Nat.zero_add] at hit₁
  have hit₁' := hit₁
  obtain ⟨oi, hoi, _⟩ := hit₁'
  have hl₁' := hl₁
  obtain ⟨ol, hol, _⟩ := hl₁'
  rw [List.drop_zero, e]
  rw [if_neg (show ¬ (((u0 :: us).take 1).length < 1) by simp)]
  refine wpAny_bind (wpAny_holding (kun_collect (s := { s with heap := h₁ }) (T := "tuple_iterator") (.inr (.inr (.inr rfl))) (Walks.tuple (A := A.in1) hh s.heap.objs.size l hlt items) (fun j u st => st.1.typeIs) (k := 1) (by omega) ⟨hit₁, hl₁⟩ (Heap.lt_size hoi) (Heap.lt_size hol) (fun h₂ tk hk => ?_) (by rw [sizeLine_eq]; omega)))
  rw [e]
  show wpAny _ _ (if us.length < 0 then _ else _) _ _ _
  rw [if_neg (by omega)]
  have he : ∀ b o, s.heap.get? b = some o → h₂.get? b = some o := fun b o q => hk b o (Nat.ne_of_lt (Heap.lt_size q)) (hs₁.extBut b o (Nat.ne_of_lt (Heap.lt_size q)) (Heap.get?_push_of_some _ q))
  show wpAny _ _ (newList (us.take (us.length - 0)) >>= fun d => pure ([u0] ++ [d] ++ us.drop (us.length - 0))) _ _ _
  rw [Nat.sub_zero, List.take_length, List.drop_length]
  exact wpAny_bind (wpAny_newObj_type (wpAny_pure (h h₂ tk he)) (by simp only [sizeOk, List.size_toArray]; rw [sizeLine_eq]; omega))
end
theorem pg_star {X : Cx} {i j : Nat} {x y : Str} {px py ps pos : Pos} {kk : Nat} (hN : X.N.Nodup) (hi : X.N[i]? = some x) (hj : X.N[j]? = some y) (hx : Loc X.env.scope x) (hy : Loc X.env.scope y) (hc : X.calm = true) (fx : X.fn x = true := by rfl) (fy : X.fn y = true := by rfl) :
    PG X (.Tuple [.Name x px, .Starred (.Name y py) ps] kk pos) (gStar X.K i j) := by
  refine ⟨fun pins s σ H v u Q I r h => ?_⟩
  obtain ⟨a, x0, xs, rfl, hq, hl, q⟩ := h
  cases r
  obtain ⟨its, rv, ht, hz⟩ := I.tuple hq
  cases rv with
  | @cons _ u0 _ us ru rus =>
    rw [assign_Tuple]
    refine wpAny_bind (wpAny_standAt ?_)
    unfold unpack
    have hlen := rus.length
    refine wpAny_bind (wpAny_holding (star2 (u0 := u0) (us := us) ht (I.ok.hd hc) (by simp) (by simp; omega) fun h' tk hk => ?_))
    have I1 : Inv X pins σ H { s with heap := h', toks := tk } := I.kept (t' := tk) hk
    have hn := I1.hok.fresh (Nat.le_refl h'.objs.size)
    have I2 : Inv X pins σ (upd H h'.objs.size (.lst xs)) { s with heap := h'.push { cls := .type "list", data := .seq us.toArray }, toks := tk } :=
      I1.laid (t' := tk) (fun _ _ e => Heap.get?_push_of_some _ e) (Nat.le_refl _) ⟨Nat.le_trans hl (by decide), us, 0, rus, Heap.get?_push_size _ rfl⟩
    show wpAny _ _ (assignInOrder [assign (.Name x px) X.env, assign (.Name y py) X.env] [u0, .ref h'.objs.size]) _ _ _
    refine assignInOrder_cons (thn ((pg_name hN hi hx (.inl fx)).run pins _ σ _ x0 u0 (fun σ' H' => σ' = σ.set i (some x0) ∧ H' = upd H h'.objs.size (.lst xs)) I2 ru ⟨rfl, rfl⟩) fun _ s1 ⟨σ1, H1, I3, e1, e2⟩ => ?_)
    subst e1 e2
    refine assignInOrder_cons (thn ((pg_name hN hj hy (.inl fy)).run pins _ _ _ (.ref h'.objs.size) (.ref h'.objs.size) _ I3 rfl (q _ hn)) fun _ s2 q => assignInOrder_nil q)
end DL
/-! DL6: while, two-clause comprehensions, instances, sorting and the further readings over plain data. -/
namespace DL
open PySem PySem.Spec PyProof.Rows L2
section
variable {A : List Anc} {r r' : Rho} {z : Zs} {m m' m1 : Mu} {σ : L2.St} {H H1 H' : Hp} {P P' : Post} {t u w : TS} {te tl ta tb : TE} {d d1 d2 : D} {R : RR} {g : TG} {K : PySem.W.Frag} {S : List D → Mu → Prop} {ds es : List D} {tt : TT} {Keep : Mu → Prop} {i j : Int} {b : Bool} {l : Addr}
/-! while -/
theorem wp_while {c : TT} (J : Nat → Rho → Mu → Prop) (j0 : ∃ n, J n r m) (js : ∀ n r' m', J n r' m' → EvT r' m' c fun b m2 => if b = true then Wp A r' m2 t { P with nx := fun r3 m3 => ∃ n', n' < n ∧ J n' r3 m3, ct := fun r3 m3 => ∃ n', n' < n ∧ J n' r3 m3, bk := P.nx } else P.nx r' m2) : Wp A r m (tWhile c t) P := fun z σ H o En F => by
  obtain ⟨n0, j0⟩ := j0
  refine ⟨fun n σ' H' => ∃ r' m', OkA A r' z m' σ' H' ∧ J n r' m', ⟨n0, r, m, o, j0⟩, ?_⟩
  rintro n σ' H' ⟨r', m', o', jn⟩
  refine js n r' m' jn z σ' H' o'.env o'.vol _ fun b H2 m2 s2 p => ?_
  have o2 := o'.step s2
  cases b with
  | true =>
    rw [if_pos rfl] at p
    refine iteT ⟨fun σ3 H3 => ∃ n', n' < n ∧ ∃ r3 m3, OkA A r3 z m3 σ3 H3 ∧ J n' r3 m3, fun σ3 H3 q => q, ?_⟩
    exact p z σ' H2 o2 _ ⟨fun r3 m3 σ3 H3 o3 q => by obtain ⟨n', h1, h2⟩ := q; exact ⟨n', h1, r3, m3, o3, h2⟩, F.rt, F.nx, fun r3 m3 σ3 H3 o3 q => by obtain ⟨n', h1, h2⟩ := q; exact ⟨n', h1, r3, m3, o3, h2⟩⟩
  | false =>
    rw [if_neg Bool.false_ne_true] at p
    exact iteF (F.nx r' m2 σ' H2 o2 p)
/-! what is walked, further -/
theorem src_lv (h : Ev1 r m tl d) (hv : LV m d ds) : Src r m (iList K tl) (fun m' => LV m' d ds) (SIs ds m) := by
  rcases hv with rfl | ⟨l, rfl, hm⟩
  · exact fun z σ H e v Rq q => src_list1 (K := K) h z σ H e v Rq fun J H1 m1 ds' s hs y => q J H1 m1 ds' s hs ⟨fun i d z' m' H' a b c _ => y.go i d z' m' H' a b c trivial, fun z' m' H' a b _ => y.stop z' m' H' a b trivial⟩
  · exact fun z σ H e v Rq q => src_vol (K := K) h hm z σ H e v Rq fun J H1 m1 ds' s hs y => q J H1 m1 ds' s hs ⟨fun i d z' m' H' a b c k => y.go i d z' m' H' a b c (by
      rcases k with k | ⟨l', e', k⟩
      · cases k
      · cases e'; exact k), fun z' m' H' a b k => y.stop z' m' H' a b (by
      rcases k with k | ⟨l', e', k⟩
      · cases k
      · cases e'; exact k)⟩
def enumD (ds : List D) : List D := ds.zipIdx.map fun p => .tup [.int (p.2 : Nat), p.1]
theorem enumD_get {k : Nat} {d : D} (h : (enumD ds)[k]? = some d) : ∃ e, ds[k]? = some e ∧ d = .tup [.int (k : Nat), e] := by
  unfold enumD at h
  rw [List.getElem?_map, List.getElem?_zipIdx] at h
  cases e : ds[k]? with
  | none => rw [e] at h; cases h
  | some x =>
    rw [e] at h
    simp at h
    exact ⟨x, rfl, h.symm⟩
theorem enumD_len : (enumD ds).length = ds.length := by unfold enumD; simp
theorem src_enumT {ta : TA} (h : EvA1 r m ta [.tup ds]) : Src r m (iEnumT K ta) KT (SIs (enumD ds) m) := fun z σ H e v Rq q =>
  h z σ H e v _ fun vs H1 as m1 s a p => by
    obtain ⟨rfl, rfl⟩ := p
    obtain ⟨x, t, rfl, h1, h2⟩ := a.inv
    obtain rfl := h2.inv0
    obtain ⟨c, xs, rfl, n, hc, hl⟩ := at_tup h1
    refine ⟨c, xs, rfl, .of hc, q _ H1 m1 _ s ⟨rfl, rfl⟩ ⟨fun k d z' m' H' hd ex v' _ => ?_, fun z' m' H' ex v' _ => ?_⟩⟩
    · obtain ⟨e', he, rfl⟩ := enumD_get hd
      obtain ⟨h3, n3⟩ := ex c _ hc n
      obtain ⟨x, hx, ax⟩ := hl.get he
      refine ⟨⟨xs, x, .of h3, hx⟩, fun y H2 hy => ?_⟩
      obtain ⟨T, x', rfl, nT, rfl, f⟩ := hy
      have ex' := f xs (.of h3)
      rw [hx] at ex'; cases ex'
      have s2 : Stp z' m' H' m' (upd H' T (.tup [.int (k : Nat), x])) := .new v' nT
      exact ⟨s2, mk_tup (v'.fresh nT) upd_same (.cons mk_int (.cons (At.go (ex.trans s2.ext) _ _ ax) .nil))⟩
    · obtain ⟨h3, n3⟩ := ex c _ hc n
      exact ⟨xs, .of h3, by rw [hl.len, enumD_len]; exact Nat.le_refl _⟩
/-! two clauses -/
theorem ev_lc2 {wi1 : TI} {g1 : TG} {tt1 : TT} {vs vs1 : List Nat} {Keep1 : Mu → Prop} (p : D → D → Bool) (f : D → D → D) (h : Src r m wi Keep (SIs ds m)) (hK : Keep m)
    (hs : ∀ d, d ∈ ds → ∃ r' is, (∀ k ∈ is, k ∈ vs) ∧ Gd (wipeR r vs) m g d r' is ∧ EvT1 r' m tt true ∧ Src r' m wi1 Keep1 (SIs es m) ∧ Keep1 m ∧
      ∀ e, e ∈ es → ∃ r'' is1, (∀ k ∈ is1, k ∈ vs1) ∧ Gd (wipeR r' vs1) m g1 e r'' is1 ∧ EvT1 r'' m tt1 (p d e) ∧ (p d e = true → Ev1 r'' m te (f d e)))
    (hl : ds.length * es.length < sizeLine) : Ev1 r m (tLc2 wi g tt wi1 g1 tt1 te vs vs1) (.lst (ds.flatMap fun d => (es.filter (p d)).map (f d))) := fun z σ H e v Q q =>
  h z σ H e v _ fun J0 H1 m1 ds' s hs' y => by
    obtain ⟨rfl, rfl⟩ := hs'
    intro Dl hDl
    have zl : z Dl = none := by
      cases q : z Dl with
      | none => rfl
      | some o => rw [(s.vol.hid Dl o q).1] at hDl; cases hDl
    have e1 : EnvR (mm z m1) H1 r σ := e.go s.ext
    have start : Ext (mm z m1) H1 (mm (zp z Dl []) m1) (upd H1 Dl (.lst [])) := fun a o h n => by
      have ne := ne_of_none h hDl
      refine ⟨by rw [upd_ne ne]; exact h, fun q => ?_⟩
      rcases zp_mm.mp q with q | q
      · exact n q
      · exact ne q
    let row : D → List D := fun d => (es.filter (p d)).map (f d)
    have rl : ∀ d, (row d).length ≤ es.length := fun d => by show ((es.filter (p d)).map (f d)).length ≤ _; rw [List.length_map]; exact List.length_filter_le _ _
    have tl_ : ∀ (n : Nat) (L : List D), L.length ≤ n → (L.flatMap row).length ≤ n * es.length := fun n => by
      induction n with
      | zero => intro L hL; rw [List.length_eq_zero_iff.mp (by omega : L.length = 0)]; simp
      | succ n ih =>
        intro L hL
        cases L with
        | nil => simp
        | cons a L =>
          rw [List.flatMap_cons, List.length_append]
          have h1 := ih L (by simpa using hL)
          have h2 := rl a
          have h3 : (n + 1) * es.length = n * es.length + es.length := Nat.succ_mul _ _
          omega
    refine ⟨fun i k H' => k = ds'.length - i ∧ i ≤ ds'.length ∧ ∃ xs, Ext (mm z m1) H1 (mm (zp z Dl xs) m1) H' ∧ Vol (zp z Dl xs) m1 H' ∧ AtL (mm (zp z Dl xs) m1) H' ((ds'.take i).flatMap row) xs,
      ⟨ds'.length, by simp, Nat.zero_le _, [], start, zp_vol s.vol hDl, .nil⟩, ?_⟩
    rintro i k H' ⟨rfl, hi, xs, x1, x3, x4⟩
    by_cases hlt : i < ds'.length
    · obtain ⟨hgo, hy⟩ := y.go i ds'[i] _ m1 H' (List.getElem?_eq_getElem hlt) x1 x3 hK
      have et : (ds'.take (i + 1)).flatMap row = (ds'.take i).flatMap row ++ row ds'[i] := by
        rw [List.take_succ, List.getElem?_eq_getElem hlt, List.flatMap_append]
        simp
      have len_i : ((ds'.take i).flatMap row).length ≤ i * es.length := tl_ i _ (by rw [List.length_take]; omega)
      have hb : i * es.length + es.length ≤ ds'.length * es.length := by
        have := Nat.mul_le_mul_right es.length (Nat.succ_le_of_lt hlt)
        rw [Nat.succ_mul] at this
        exact this
      refine .inr ⟨hgo, fun H2 => ∃ xs, Ext (mm z m1) H1 (mm (zp z Dl xs) m1) H2 ∧ Vol (zp z Dl xs) m1 H2 ∧ AtL (mm (zp z Dl xs) m1) H2 ((ds'.take (i + 1)).flatMap row) xs, fun H2 p => ⟨ds'.length - (i + 1), by omega, rfl, hlt, p⟩, fun x H2 hx => ?_⟩
      obtain ⟨s2, a2⟩ := hy x H2 hx
      obtain ⟨r', js, hjs, hg, ht, hs1, hk1, hin⟩ := hs ds'[i] (List.getElem_mem hlt)
      have x1' := x1.trans s2.ext
      have eW : EnvR (mm (zp z Dl xs) m1) H2 (wipeR r vs) (L2.wipe σ vs) := (e1.go x1').wipe vs
      refine hg _ _ H2 x eW s2.vol a2 _ fun σ3 e3 l3 k3 => ⟨?_, ?_⟩
      · refine wipe_same (by rw [l3, wipe_len]) fun k hk => ?_
        rw [k3 k (fun q => hk (hjs k q)), wipe_get hk]
      refine ht _ σ3 H2 e3 s2.vol _ fun b H3 m3 s3 p3 => ?_
      obtain ⟨rfl, rfl⟩ := p3
      refine iteT (hs1 _ σ3 H3 (e3.go s3.ext) s3.vol _ fun J1 H4 m4 es' s4 hs4 y1 => ?_)
      obtain ⟨rfl, rfl⟩ := hs4
      have s24 := (s2.trans s3).trans s4
      have x14 := x1.trans s24.ext
      have e4 : EnvR (mm (zp z Dl xs) m4) H4 r' σ3 := e3.go (s3.trans s4).ext
      refine ⟨fun j k H' => k = es'.length - j ∧ j ≤ es'.length ∧ ∃ ys, Ext (mm (zp z Dl xs) m4) H4 (mm (zp z Dl ys) m4) H' ∧ Vol (zp z Dl ys) m4 H' ∧ AtL (mm (zp z Dl ys) m4) H' ((ds'.take i).flatMap row ++ ((es'.take j).filter (p ds'[i])).map (f ds'[i])) ys,
        ⟨es'.length, by simp, Nat.zero_le _, xs, .refl _ _, s4.vol, by simpa using x4.go s24.ext⟩, ?_⟩
      rintro j k H5 ⟨rfl, hj, ys, w1, w3, w4⟩
      by_cases hjt : j < es'.length
      · obtain ⟨hgo1, hy1⟩ := y1.go j es'[j] _ m4 H5 (List.getElem?_eq_getElem hjt) w1 w3 hk1
        refine .inr ⟨hgo1, fun H6 => ∃ ys, Ext (mm (zp z Dl xs) m4) H4 (mm (zp z Dl ys) m4) H6 ∧ Vol (zp z Dl ys) m4 H6 ∧ AtL (mm (zp z Dl ys) m4) H6 ((ds'.take i).flatMap row ++ ((es'.take (j + 1)).filter (p ds'[i])).map (f ds'[i])) ys, fun H6 p => ⟨es'.length - (j + 1), by omega, rfl, hjt, p⟩, fun x6 H6 hx6 => ?_⟩
        obtain ⟨s6, a6⟩ := hy1 x6 H6 hx6
        obtain ⟨r'', js1, hjs1, hg1, ht1, he1⟩ := hin es'[j] (List.getElem_mem hjt)
        have w1' := w1.trans s6.ext
        have eW1 : EnvR (mm (zp z Dl ys) m4) H6 (wipeR r' vs1) (L2.wipe σ3 vs1) := (e4.go w1').wipe vs1
        refine hg1 _ _ H6 x6 eW1 s6.vol a6 _ fun σ7 e7 l7 k7 => ⟨?_, ?_⟩
        · refine wipe_same (by rw [l7, wipe_len]) fun k hk => ?_
          rw [k7 k (fun q => hk (hjs1 k q)), wipe_get hk]
        refine ht1 _ σ7 H6 e7 s6.vol _ fun b H7 m7 s7 p7 => ?_
        obtain ⟨rfl, rfl⟩ := p7
        have et1 : (es'.take (j + 1)).filter (p ds'[i]) = (es'.take j).filter (p ds'[i]) ++ (if p ds'[i] es'[j] = true then [es'[j]] else []) := by
          rw [List.take_succ, List.getElem?_eq_getElem hjt, List.filter_append]
          simp [List.filter_cons]
        cases hp : p ds'[i] es'[j] with
        | true =>
          refine iteT (he1 hp _ σ7 H7 (e7.go s7.ext) s7.vol _ fun yv H8 d8 m8 s8 a8 p8 => ?_)
          obtain ⟨rfl, rfl⟩ := p8
          obtain ⟨hD4, _⟩ := s8.vol.hid Dl ys (by unfold zp; rw [if_pos rfl])
          obtain ⟨v5, e5⟩ := zp_more (ys := ys ++ [yv]) s8.vol
          have s68 := (s6.trans s7).trans s8
          have fl : (((es'.take j).filter (p ds'[i])).map (f ds'[i])).length < es'.length := by
            rw [List.length_map]
            exact Nat.lt_of_le_of_lt (List.length_filter_le _ _) (by rw [List.length_take]; omega)
          refine ⟨ys, hD4, by rw [w4.len, List.length_append]; omega, ys ++ [yv], (w1.trans s68.ext).trans e5, v5, ?_⟩
          rw [et1, if_pos hp, List.map_append, ← List.append_assoc]
          exact ((w4.go s68.ext).go e5).append (.cons (At.go e5 _ _ a8) .nil)
        | false =>
          refine iteF ⟨ys, w1'.trans s7.ext, s7.vol, ?_⟩
          rw [et1, if_neg (by rw [hp]; decide), List.append_nil]
          exact (w4.go s6.ext).go s7.ext
      · have ej : j = es'.length := by omega
        subst ej
        refine .inl ⟨y1.stop _ m4 H5 w1 w3 hk1, ys, x14.trans w1, w3, ?_⟩
        rw [et]
        rw [List.take_length] at w4
        exact w4
    · have ei : i = ds'.length := by omega
      subst ei
      refine .inl ⟨y.stop _ m1 H' x1 x3 hK, ?_⟩
      obtain ⟨hDl', mDl⟩ := x3.hid Dl xs (by unfold zp; rw [if_pos rfl])
      have nD : ¬ mm z m1 Dl := fun q => by
        rcases q with q | q
        · exact q mDl
        · exact q zl
      rw [List.take_length] at x4
      exact q _ H' _ m1 (s.trans ⟨x1.trans zp_ext, fun _ x => x, zp_off x3 zl⟩) (mk_lst nD hDl' (x4.go zp_ext)) ⟨rfl, rfl⟩
/-! more targets and assignments -/
theorem gd_unl {gs : TGs} {n : Nat} {is : List Nat} (h : GdL r m gs ds r' is) (hn : ds.length = n := by rfl) : Gd r m (gUnl K n gs) (.lst ds) r' is := fun z σ H x e v a Q q => by
  obtain ⟨b, xs, rfl, n1, hb, hl⟩ := at_lst a
  exact ⟨b, xs, rfl, .of hb, by rw [hl.len, hn], h z σ H xs e v hl Q q⟩
theorem wp_par3 {i j k : Nat} {tl : TA} {d1 d2 d3 : D} (h : EvA1 r m tl [d1, d2, d3]) (kk : P.nx (((r.set i (some d1)).set j (some d2)).set k (some d3)) m) : Wp A r m (tPar3 i j k tl) P := fun z σ H o En F =>
  h z σ H o.env o.vol _ fun xs H2 ds m' s a p => by
    obtain ⟨rfl, rfl⟩ := p
    obtain ⟨x, t1, rfl, a1, a2⟩ := a.inv
    obtain ⟨y, t2, rfl, a3, a4⟩ := a2.inv
    obtain ⟨w, t3, rfl, a5, a6⟩ := a4.inv
    obtain rfl := a6.inv0
    exact ⟨x, y, w, rfl, F.nx _ _ _ H2 ((((o.step s).set i a1).set j a3).set k a5) kk⟩
/-- first, *rest -/
theorem q_star {i j : Nat} (h : Ev1 r m te (.tup (d :: ds))) (hl : ds.length ≤ 1000) (k : Wp A ((r.set i (some d)).set j (some (.lst ds))) m w P) : Wp A r m (tSeq (tAsg te (gStar K i j)) w) P := wp_seq fun z σ H o En F =>
  h z σ H o.env o.vol _ fun x H1 d' m1 s a p => by
    obtain ⟨rfl, rfl⟩ := p
    obtain ⟨c, xs, rfl, n, hc, hll⟩ := at_tup a
    obtain ⟨x0, xr, rfl, a1, a2⟩ := hll.inv
    refine ⟨c, x0, xr, rfl, .of hc, by rw [a2.len]; exact hl, fun p np => ?_⟩
    have o1 := o.step s
    have s2 : Stp z m1 H1 m1 (upd H1 p (.lst xr)) := .new o1.vol np
    exact F.nx _ m1 _ _ (((o1.step s2).set i (At.go s2.ext _ _ a1)).set j (mk_lst (o1.vol.fresh np) upd_same (a2.go s2.ext))) k
/-! the readings of DLR -/
theorem ev_lenSet {ns : List Nat} (h : Ev1 r m te (.tup (ns.map fun (n : Nat) => D.int n))) (hl : ns.length ≤ 1000) (hR : ∀ n : Nat, (n = ns.length ↔ ns.Nodup) → R (.int (n : Nat)) m) : Ev r m (tLenSetT K te) R := fun z σ H e v Q q =>
  h z σ H e v _ fun x H1 d' m1 s a p => by
    obtain ⟨rfl, rfl⟩ := p
    obtain ⟨c, xs, rfl, n, hc, hll⟩ := at_tup a
    have ex : xs = (ns.map fun (n : Nat) => (n : Int)).map V.int := at_ints (is := ns.map fun (n : Nat) => (n : Int)) (by rw [List.map_map]; exact hll)
    rw [ex] at hc
    refine ⟨c, _, rfl, .of hc, by rw [List.length_map]; exact hl, fun k hk => q _ H1 _ m1 s mk_int (hR k ?_)⟩
    rw [List.length_map] at hk
    rw [hk]
    constructor
    · intro h
      exact (List.pairwise_map.mp h).imp fun hab q => hab (by rw [q])
    · intro h
      exact (List.pairwise_map.mpr (h.imp fun hab q => hab (Int.ofNat.inj q)))
theorem c_minT : OpL (rMinT K) m [.tup [.int i, .int j]] (Is (.int (min i j)) m) := fun z H vs v a Q q => by
  obtain ⟨x, t, rfl, h1, h2⟩ := a.inv
  obtain rfl := h2.inv0
  obtain ⟨c, xs, rfl, n, hc, hl⟩ := at_tup h1
  rw [args2 hl] at hc
  have e : (if j < i then j else i) = min i j := by split <;> omega
  exact ⟨c, i, j, rfl, .of hc, by rw [e]; exact q.here v mk_int⟩
theorem c_maxT : OpL (rMaxT K) m [.tup [.int i, .int j]] (Is (.int (max i j)) m) := fun z H vs v a Q q => by
  obtain ⟨x, t, rfl, h1, h2⟩ := a.inv
  obtain rfl := h2.inv0
  obtain ⟨c, xs, rfl, n, hc, hl⟩ := at_tup h1
  rw [args2 hl] at hc
  have e : (if j > i then j else i) = max i j := by split <;> omega
  exact ⟨c, i, j, rfl, .of hc, by rw [e]; exact q.here v mk_int⟩
theorem o_inDT (h1 : okD d1 = true) (h2 : okD (.tup ds) = true) (hb : b = true ↔ d1 ∈ ds) : Op (rInDT K) m d1 (.tup ds) (Is (.bl b) m) := fun z H x y v hx hy Q q => by
  have hd := dp_of (K := K) (.tup ds) y (okD_pl h2) hy
  have hs := okD_shaped h2
  unfold toP at hd hs
  have h3 : okD (.lst ds) = true := h2
  exact ⟨toP d1, toPs ds, dp_of d1 x (okD_pl h1) hx, hd, okD_shaped h1, hs, by rw [any_eqv h1 h3 hb]; exact q.here v mk_bl⟩
theorem o_neDT {kvs} (h : DV m d1 kvs) : Op rNeDT m d1 (.dic []) (Is (.bl (!kvs.isEmpty)) m) := fun z H x y v hx hy Q q => by
  obtain ⟨p, rfl, hp⟩ := dv_at h v hx
  obtain ⟨p2, rfl, n, hp2⟩ := at_dic hy
  refine ⟨p, p2, _, rfl, rfl, hp, hp2, ?_⟩
  have e : (kvs.map kvE).isEmpty = kvs.isEmpty := by cases kvs <;> rfl
  rw [e]; exact q.here v mk_bl
theorem ev_dget1N {kvs} {k : Int × Int} {d0 : D} (hd : DV m d0 kvs) (h : Ev1 r m ta d0) (h1 : Ev1 r m tb (tk k)) : Ev1 r m (tDGet1N ta tb) (ioD (dget kvs k) .non) := fun z σ H en v Q q =>
  h z σ H en v _ fun x H1 _ m1 s1 a1 p => by
    obtain ⟨rfl, rfl⟩ := p
    obtain ⟨p, rfl, hp⟩ := dv_at hd s1.vol a1
    refine ⟨p, rfl, .inr ⟨_, .inl hp⟩, h1 z σ H1 (en.go s1.ext) s1.vol _ fun y H2 _ m2 s2 a2 p => ?_⟩
    obtain ⟨rfl, rfl⟩ := p
    obtain ⟨b, rfl, hb⟩ := at_tk a2
    obtain ⟨p', e', hp'⟩ := dv_at hd s2.vol (At.go s2.ext _ _ a1)
    cases e'
    refine .inl ⟨_, .t hp' hb, ?_⟩
    rw [valV_kE]
    cases hg : dget kvs k with
    | none => exact q .non H2 .non m2 (s1.trans s2) mk_non ⟨by rw [hg]; rfl, rfl⟩
    | some i => exact q (.int i) H2 (.int i) m2 (s1.trans s2) mk_int ⟨by rw [hg]; rfl, rfl⟩
theorem ev_dget1N0 {d0 : D} (hd : DV m d0 []) (h : Ev1 r m ta d0) (h1 : Ev1 r m tb .non) : Ev1 r m (tDGet1N ta tb) .non := fun z σ H en v Q q =>
  h z σ H en v _ fun x H1 _ m1 s1 a1 p => by
    obtain ⟨rfl, rfl⟩ := p
    obtain ⟨p, rfl, hp⟩ := dv_at hd s1.vol a1
    refine ⟨p, rfl, .inr ⟨_, .inl hp⟩, h1 z σ H1 (en.go s1.ext) s1.vol _ fun y H2 _ m2 s2 a2 p => ?_⟩
    obtain ⟨rfl, rfl⟩ := p
    obtain ⟨p', e', hp'⟩ := dv_at hd s2.vol (At.go s2.ext _ _ a1)
    cases e'
    exact .inr ⟨at_non a2, hp', q .non H2 .non m2 (s1.trans s2) mk_non ⟨rfl, rfl⟩⟩
theorem ev_dpopT {kvs} {k : Int × Int} (h : Ev1 r m ta (.vol l)) (h1 : Ev1 r m tb (tk k)) (hm : m l = some (.dic kvs)) (hg : dget kvs k = some i) : Ev r m (tDPopT ta tb) (Is (.int i) (pt m l (.dic (ddrop kvs k)))) := fun z σ H en v Q q =>
  h z σ H en v _ fun x H1 _ m1 s1 a1 p => by
    obtain ⟨rfl, rfl⟩ := p
    obtain ⟨p, rfl, hp⟩ := dv_at (.inr ⟨l, rfl, hm⟩) s1.vol a1
    cases at_vol a1
    refine ⟨_, rfl, .inr ⟨_, .inl hp⟩, h1 z σ H1 (en.go s1.ext) s1.vol _ fun y H2 _ m2 s2 a2 p => ?_⟩
    obtain ⟨rfl, rfl⟩ := p
    obtain ⟨b, rfl, hb⟩ := at_tk a2
    have hl : H2 l = some (.dT (kvs.map kvE)) := s2.vol.at_ l _ hm
    refine ⟨_, kE k, b, .int i, hl, rfl, hb, by rw [valV_kE, hg]; rfl, ?_⟩
    rw [dropK_kE]
    have s3 : Stp z m2 H2 (pt m2 l (.dic (ddrop kvs k))) (upd H2 l (.dT ((ddrop kvs k).map kvE))) := .put s2.vol (dm_of hm) fun _ => (upd_same : upd H2 l _ l = _)
    exact q (.int i) _ (.int i) _ ((s1.trans s2).trans s3) mk_int ⟨rfl, rfl⟩
/-- a copy of a dict, to be changed or not -/
theorem ev_dcopy {kvs} {d0 : D} (hd : DV m d0 kvs) (h : Ev1 r m te d0) (hk : ∀ p ∈ kvs, ∃ a b : Nat, p.1 = ((a : Int), (b : Int)) ∧ a < 8 ∧ b < 8) (k : R = Is (.dic kvs) m ∨ R = NewV (.dic kvs) m) : Ev r m (tDictCopy te) R := fun z σ H en v Q q =>
  h z σ H en v _ fun x H1 _ m1 s1 a1 p => by
    obtain ⟨rfl, rfl⟩ := p
    obtain ⟨p, rfl, hp⟩ := dv_at hd s1.vol a1
    refine ⟨p, _, rfl, hp, fun y hy => ?_, fun p np => ?_⟩
    · obtain ⟨x, hx, rfl⟩ := List.mem_map.mp hy
      obtain ⟨a, b, e, ha, hb⟩ := hk x hx
      exact ⟨a, b, by unfold kvE; rw [e], ha, hb⟩
    · rcases k with rfl | rfl
      · exact q _ _ _ m1 (s1.trans (.new s1.vol np)) (mk_dic (s1.vol.fresh np) upd_same) ⟨rfl, rfl⟩
      · exact q _ _ (.vol p) (pt m1 p (.dic kvs)) (s1.trans (.newVol s1.vol np (upd_same : upd H1 p _ p = _))) mk_vol ⟨p, rfl, s1.vol.freshM np, rfl⟩
/-! instances -/
theorem ev_fld {x : Str} {C dx : Addr} {fs : List (Str × D)} (h : Ev1 r m te (.vol l)) (hm : m l = some (.ins C dx fs)) (hc : Cls K C) (hn : NoAttr K C x) (hf : fs.lookup x = some d) : Ev1 r m (tFld K te x) d := fun z σ H en v Q q =>
  h z σ H en v _ fun y H1 _ m1 s1 a1 p => by
    obtain ⟨rfl, rfl⟩ := p
    obtain ⟨gs, hg, hk, hl⟩ := s1.vol.at_ l _ hm
    have key : ∀ (fs : List (Str × D)) (gs : List (Str × V)), gs.map (·.1) = fs.map (·.1) → AtL (mm z m1) H1 (fs.map (·.2)) (gs.map (·.2)) → ∀ d, fs.lookup x = some d → ∃ v, gs.lookup x = some v ∧ At (mm z m1) H1 d v := fun fs => by
      induction fs with
      | nil => intro gs _ _ d h; cases h
      | cons p fs ih =>
        intro gs hk hl d hd
        cases gs with
        | nil => cases hk
        | cons y gs =>
          obtain ⟨p1, p2⟩ := p
          obtain ⟨y1, y2⟩ := y
          simp only [List.map_cons, List.cons.injEq] at hk
          obtain ⟨w, t, e, a1, a2⟩ := hl.inv
          simp only [List.map_cons, List.cons.injEq] at e
          obtain ⟨rfl, rfl⟩ := e
          obtain ⟨rfl, hk2⟩ := hk
          rw [List.lookup_cons] at hd ⊢
          by_cases hxy : (x == y1) = true
          · rw [hxy] at hd ⊢
            cases hd
            exact ⟨_, rfl, a1⟩
          · rw [Bool.not_eq_true] at hxy
            rw [hxy] at hd ⊢
            exact ih gs hk2 a2 d hd
    obtain ⟨w, hw, aw⟩ := key fs gs hk hl d hf
    exact ⟨l, C, dx, gs, w, at_vol a1, hg, hc, hn, hw, q w H1 d m1 s1 aw ⟨rfl, rfl⟩⟩
def putD (f : Str) (v : D) : List (Str × D) → List (Str × D)
  | [] => [(f, v)]
  | (g, x) :: r => if g = f then (g, v) :: r else (g, x) :: putD f v r
theorem putD_at {M : Addr → Prop} {x : Str} {v : V} (hv : At M H d v) : ∀ {fs : List (Str × D)} {gs : List (Str × V)}, gs.map (·.1) = fs.map (·.1) → AtL M H (fs.map (·.2)) (gs.map (·.2)) → (putF x v gs).map (·.1) = (putD x d fs).map (·.1) ∧ AtL M H ((putD x d fs).map (·.2)) ((putF x v gs).map (·.2))
  | [], [], _, _ => ⟨rfl, .cons hv .nil⟩
  | [], _ :: _, h, _ => by cases h
  | _ :: _, [], h, _ => by cases h
  | (p1, p2) :: fs, (y1, y2) :: gs, hk, hl => by
    simp only [List.map_cons, List.cons.injEq] at hk
    obtain ⟨rfl, hk2⟩ := hk
    obtain ⟨w, t, e, a1, a2⟩ := hl.inv
    simp only [List.map_cons, List.cons.injEq] at e
    obtain ⟨rfl, rfl⟩ := e
    unfold putF putD
    by_cases h : y1 = x
    · rw [if_pos h, if_pos h]
      exact ⟨by simp [hk2], .cons hv a2⟩
    · rw [if_neg h, if_neg h]
      obtain ⟨i1, i2⟩ := putD_at (x := x) hv hk2 a2
      exact ⟨by simp [i1], .cons a1 i2⟩
theorem wp_fld {x : Str} {C dx : Addr} {fs : List (Str × D)} {tv to : TE} {R1 : RR} (hv : Ev r m tv R1) (k : ∀ d m1, R1 d m1 → ∃ l fs, Ev1 r m1 to (.vol l) ∧ m1 l = some (.ins C dx fs) ∧ fs.length < 1000 ∧ P.nx r (pt m1 l (.ins C dx (putD x d fs)))) (hc : Cls K C) (hn : NoAttr K C x) : Wp A r m (sFld K to tv x) P := fun z σ H o En F =>
  hv z σ H o.env o.vol _ fun y H1 d m1 s1 a1 p => by
    obtain ⟨l, fs, h2, hm, hz, hr⟩ := k d m1 p
    have o1 := o.step s1
    refine h2 z σ H1 o1.env o1.vol _ fun w H2 _ m2 s2 a2 p => ?_
    obtain ⟨rfl, rfl⟩ := p
    have o2 := o1.step s2
    obtain ⟨gs, hg, hk, hl⟩ := o2.vol.at_ l _ hm
    have lg : gs.length = fs.length := by have := congrArg List.length hk; simpa using this
    refine ⟨l, C, dx, gs, at_vol a2, hg, hc, hn, by omega, ?_⟩
    have s3 : Stp z m2 H2 (pt m2 l (.ins C dx (putD x d fs))) (upd H2 l (.ins C dx (putF x y gs))) := .put o2.vol (dm_of hm) fun ex => by
      obtain ⟨h1, h2⟩ := putD_at (x := x) (At.go (s2.ext.trans ex) _ _ a1) hk (hl.go ex)
      exact ⟨_, upd_same, h1, h2⟩
    exact F.nx r _ σ _ (o2.step s3) hr
theorem ev_meth {C dx : Addr} {x : Str} {fs : List (Str × D)} {tl : TA} {E : XK} {ds : List D} {pre : List D → Mu → Prop} {post : List D → Mu → RR} {R0 : RR} (h : Ev r m te R0) (k : ∀ d m1, R0 d m1 → ∃ l fs dx ds, d = .vol l ∧ m1 l = some (.ins C dx fs) ∧ (fs.map (·.1)).contains x = false ∧ EvA1 r m1 tl ds ∧ pre (.vol l :: ds) m1 ∧ ∀ d m2, post (.vol l :: ds) m1 d m2 → R d m2) :
    Ev r m (tMeth C x (spD pre post) [] E te tl) R := fun z σ H en v Q q =>
  h z σ H en v _ fun y H1 d m1 s1 a1 p => by
    obtain ⟨l, fs, dx, ds, rfl, hm, hx, hA, hp, hk⟩ := k d m1 p
    obtain ⟨gs, hg, hks, hl⟩ := s1.vol.at_ l _ hm
    have hno : gs.lookup x = none := by
      rw [List.lookup_eq_none_iff]
      intro q hq
      have hc : q.1 ∈ fs.map (·.1) := by rw [← hks]; exact List.mem_map_of_mem hq
      rw [bne_iff_ne]
      rintro rfl
      rw [List.contains_eq_any_beq] at hx
      have := List.any_eq_false.mp hx q.1 hc
      simp at this
    refine ⟨l, dx, gs, at_vol a1, hg, hno, hA z σ H1 (en.go s1.ext) s1.vol _ fun xs H2 ds' m2 s2 a2 p2 => ?_⟩
    obtain ⟨rfl, rfl⟩ := p2
    rw [List.append_nil]
    have e := at_vol a1
    subst e
    exact ⟨z, .vol l :: ds', m2, .cons mk_vol a2, s2.vol, hp, fun v H3 d m3 s3 a3 z3 => q v H3 d m3 ((s1.trans s2).trans s3) a3 (hk d m3 z3)⟩
/-- C(..) by its __init__ -/
theorem ev_make {C : Addr} {tl : TA} {E : XK} {ds : List D} {pre : List D → Mu → Prop} {post : List D → Mu → RR} (hA : EvA1 r m tl ds)
    (hp : ∀ x dx, ¬ dm m x → pre (.vol x :: ds) (pt m x (.ins C dx []))) (hk : ∀ x dx d m2, ¬ dm m x → post (.vol x :: ds) (pt m x (.ins C dx [])) d m2 → d = .non ∧ R (.vol x) m2) : Ev r m (tMake C (spD pre post) [] E tl) R := fun z σ H en v Q q =>
  hA z σ H en v _ fun xs H1 ds' m1 s1 a1 p => by
    obtain ⟨rfl, rfl⟩ := p
    intro x dx nx ndx ne
    have s2 : Stp z m1 H1 m1 (upd H1 dx (.own x)) := .new s1.vol ndx
    have nx2 : upd H1 dx (.own x) x = none := by rw [upd_ne ne.symm]; exact nx
    have s3 : Stp z m1 (upd H1 dx (.own x)) (pt m1 x (.ins C dx [])) (upd (upd H1 dx (.own x)) x (.ins C dx [])) := .newVol s2.vol nx2 ⟨[], upd_same, rfl, .nil⟩
    have nd := s1.vol.freshM nx
    rw [List.append_nil]
    refine ⟨z, .vol x :: ds', _, .cons mk_vol (a1.go (s2.trans s3).ext), s3.vol, hp x dx nd, fun v H3 d m3 s4 a4 z4 => ?_⟩
    obtain ⟨rfl, hr⟩ := hk x dx d m3 nd z4
    exact ⟨at_non a4, q (.ref x) H3 (.vol x) m3 (((s1.trans s2).trans s3).trans s4) mk_vol hr⟩
end
end DL
/-! DL7: promises over arguments of a type of one's own; sorting. -/
namespace DL
open PySem PySem.Spec PyProof.Rows L2
/-- a promise: the arguments are those of some a -/
def spT {α : Type} (args : α → List D) (pre : α → Mu → Prop) (post : α → Mu → RR) : Sp := fun vs H Q _ => ∃ (a : α) (z : Zs) (m : Mu), AtL (mm z m) H (args a) vs ∧ Vol z m H ∧ pre a m ∧ Res z m H (post a m) Q
section
variable {α : Type} {args : α → List D} {pre : α → Mu → Prop} {post : α → Mu → RR} {A : List Anc} {r r' : Rho} {z : Zs} {m m' m1 : Mu} {R : RR} {tl : TA} {te : TE} {E : XK} {K : PySem.W.Frag}
theorem ev_callT {R1 : List D → Mu → Prop} (ha : EvA r m tl R1) (k : ∀ ds m1, R1 ds m1 → ∃ a, ds = args a ∧ pre a m1 ∧ ∀ d m2, post a m1 d m2 → R d m2) : Ev r m (tCall (spT args pre post) [] E tl) R := fun z σ H e v Q q =>
  ha z σ H e v _ fun xs H1 ds m1 s1 a1 z1 => by
    obtain ⟨a, rfl, hp, hk⟩ := k ds m1 z1
    show spT args pre post (xs ++ []) H1 Q E
    rw [List.append_nil]
    exact ⟨a, z, m1, a1, s1.vol, hp, fun v H2 d m2 s2 a2 z2 => q v H2 d m2 (s1.trans s2) a2 (hk d m2 z2)⟩
theorem ev_callT1 (a : α) (ha : EvA1 r m tl (args a)) (hp : pre a m) (k : ∀ d m2, post a m d m2 → R d m2) : Ev r m (tCall (spT args pre post) [] E tl) R :=
  ev_callT ha fun ds' m' z => by obtain ⟨rfl, rfl⟩ := z; exact ⟨a, rfl, hp, k⟩
/-- of a def that only reckons -/
theorem ev_callP {f : α → D} (a : α) (ha : EvA1 r m tl (args a)) (hp : pre a m) : Ev1 r m (tCall (spT args pre fun a m => Is (f a) m) [] E tl) (f a) := ev_callT1 a ha hp fun _ _ z => z
structure FinT (post : RR) (m : Mu) (d : D) (m1 : Mu) : Prop where
  ex : ∃ m', Inc m' m1 ∧ (∀ a, dm m a → dm m' a) ∧ post d m'
def PFT (post : RR) (m : Mu) : Post := { nx := fun _ m1 => FinT post m .non m1, rt := FinT post m }
theorem fin1 {d e : D} (i : Inc m m1) (h : e = d) : FinT (Is d m) m e m1 := ⟨m, i, fun _ h => h, h, rfl⟩
theorem fin_same {post : RR} {d : D} (hd : ∀ a, dm m a → dm m1 a) (h : post d m1) : FinT post m d m1 := ⟨m1, .refl _, hd, h⟩
theorem fn_goT {P : Program} {w : World} {mg : Str → Option Value} {base : Heap} {x qual : Str} {params : Arguments} {body : List Stmt} {scope : Scope} {f : Addr} {fd : FuncData} {dvs : List V} {kws : List (Str × V)}
    {N ps : List Str} {k : Nat} {t : TS}
    (F : FunD K x qual params body scope dvs kws f fd) (S : FnScope N ps scope)
    (hw : ∀ (cdv : Value) (A : Around) (outer : List Env) (s : Shared) (H : Hp) (E : XK), Room k (A.deeper (envOfC qual scope s.heap.objs.size f cdv)) → PSs (cxOf CX0 P w K mg base N qual scope f cdv A outer s H E).nox body t)
    (hl : ∀ a m, pre a m → (args a).length = ps.length)
    (hp : ∀ a m, pre a m → ∀ A : List Anc, (∀ B ∈ A, B.M = dm m) → Wp A (start0 N.length (args a)) m t (PFT (post a m) m)) : FnOk P w K mg base CX0 (k + 1) f fd ps (spT args pre post) := by
  refine F.ok S (fun vs H Q E ⟨a, z, m, h, _, p, _⟩ => by rw [h.len, hl a m p]) fun cdv A outer s H vs Q E hr h => ⟨t, (hw cdv A outer s H E hr).nox, ?_⟩
  obtain ⟨a, z, m, ha, v, p, q⟩ := h
  have ho : OkA [⟨z, dm m, H⟩] (start0 N.length (args a)) z m (L2.start N vs) H := by
    refine ⟨?_, v, fun B hB => ?_⟩
    · have e := start_env (N.length - (args a).length) ha
      unfold start0 L2.start
      rw [ha.len]
      exact e
    · obtain rfl := List.mem_singleton.mp hB
      exact ⟨rfl, .refl _ _, fun _ h => h⟩
  have fin : ∀ (x : V) (H' : Hp) (d : D) (m1 : Mu), Vol z m1 H' → Held [⟨z, dm m, H⟩] z m1 H' → At (mm z m1) H' d x → FinT (post a m) m d m1 → Q x H' := fun x H' d m1 v1 hd ad f => by
    obtain ⟨m', i, sb, po⟩ := f.ex
    obtain ⟨_, e1, _⟩ := hd _ (List.mem_singleton.mpr rfl)
    exact q x H' d m' ⟨e1.trans i.ext, sb, i.vol v1⟩ (At.go i.ext _ _ ad) po
  exact hp a m p _ (fun B hB => by obtain rfl := List.mem_singleton.mp hB; rfl) z _ H ho _ ⟨fun r m1 σ H' o f => fin .non H' .non m1 o.vol o.held (by unfold At; rfl) f, fun x H' d m1 v1 hd ad f => fin x H' d m1 v1 hd ad f, fun _ _ _ _ _ q => False.elim q, fun _ _ _ _ _ q => False.elim q⟩
/-- a weaker promise -/
theorem spT_imp {β : Type} {args' : β → List D} {pre' : β → Mu → Prop} {post' : β → Mu → RR} (h : ∀ b m, pre' b m → ∃ a, args a = args' b ∧ pre a m ∧ ∀ d m', post a m d m' → post' b m d m') : ∀ vs H Q E, spT args' pre' post' vs H Q E → spT args pre post vs H Q E := fun vs H Q E ⟨b, z, m, ha, v, p, q⟩ => by
  obtain ⟨a, e, pa, k⟩ := h b m p
  exact ⟨a, z, m, by rw [e]; exact ha, v, pa, fun x H2 d m2 s2 a2 z2 => q x H2 d m2 s2 a2 (k d m2 z2)⟩
theorem ev_methT {C : Addr} {x : Str} {R0 : RR} (h : Ev r m te R0) (k : ∀ d m1, R0 d m1 → ∃ l fs dx a as, d = .vol l ∧ m1 l = some (.ins C dx fs) ∧ (fs.map (·.1)).contains x = false ∧ EvA1 r m1 tl as ∧ args a = .vol l :: as ∧ pre a m1 ∧ ∀ d m2, post a m1 d m2 → R d m2) :
    Ev r m (tMeth C x (spT args pre post) [] E te tl) R := fun z σ H en v Q q =>
  h z σ H en v _ fun y H1 d m1 s1 a1 p => by
    obtain ⟨l, fs, dx, a, as, rfl, hm, hx, hA, ea, hp, hk⟩ := k d m1 p
    obtain ⟨gs, hg, hks, hl⟩ := s1.vol.at_ l _ hm
    have hno : gs.lookup x = none := by
      rw [List.lookup_eq_none_iff]
      intro q hq
      have hc : q.1 ∈ fs.map (·.1) := by rw [← hks]; exact List.mem_map_of_mem hq
      rw [bne_iff_ne]
      rintro rfl
      rw [List.contains_eq_any_beq] at hx
      have := List.any_eq_false.mp hx q.1 hc
      simp at this
    refine ⟨l, dx, gs, at_vol a1, hg, hno, hA z σ H1 (en.go s1.ext) s1.vol _ fun xs H2 ds' m2 s2 a2 p2 => ?_⟩
    obtain ⟨rfl, rfl⟩ := p2
    rw [List.append_nil]
    have e := at_vol a1
    subst e
    exact ⟨a, z, m2, by rw [ea]; exact .cons mk_vol a2, s2.vol, hp, fun v H3 d m3 s3 a3 z3 => q v H3 d m3 ((s1.trans s2).trans s3) a3 (hk d m3 z3)⟩
theorem ev_makeT {C : Addr} {ds : List D} (hA : EvA1 r m tl ds) (k : ∀ x dx, ¬ dm m x → ∃ a, args a = .vol x :: ds ∧ pre a (pt m x (.ins C dx [])) ∧ ∀ d m2, post a (pt m x (.ins C dx [])) d m2 → d = .non ∧ R (.vol x) m2) : Ev r m (tMake C (spT args pre post) [] E tl) R := fun z σ H en v Q q =>
  hA z σ H en v _ fun xs H1 ds' m1 s1 a1 p => by
    obtain ⟨rfl, rfl⟩ := p
    intro x dx nx ndx ne
    have s2 : Stp z m1 H1 m1 (upd H1 dx (.own x)) := .new s1.vol ndx
    have nx2 : upd H1 dx (.own x) x = none := by rw [upd_ne ne.symm]; exact nx
    have s3 : Stp z m1 (upd H1 dx (.own x)) (pt m1 x (.ins C dx [])) (upd (upd H1 dx (.own x)) x (.ins C dx [])) := .newVol s2.vol nx2 ⟨[], upd_same, rfl, .nil⟩
    obtain ⟨a, ea, hp, hk⟩ := k x dx (s1.vol.freshM nx)
    rw [List.append_nil]
    refine ⟨a, z, _, by rw [ea]; exact .cons mk_vol (a1.go (s2.trans s3).ext), s3.vol, hp, fun v H3 d m3 s4 a4 z4 => ?_⟩
    obtain ⟨rfl, hr⟩ := hk d m3 z4
    exact ⟨at_non a4, q (.ref x) H3 (.vol x) m3 (((s1.trans s2).trans s3).trans s4) mk_vol hr⟩
end
/-! ### sorting -/
section
variable {r : Rho} {m : Mu} {te : TE} {K : PySem.W.Frag} {P : Program} {w : World} {R : RR}
/-- sorted of a list of two whole numbers -/
theorem ev_sorted2 {i j : Int} (h : Ev1 r m te (.lst [.int i, .int j])) : Ev1 r m (tCB (rSorted K) (tCons te tNil)) (.lst [.int (min i j), .int (max i j)]) := fun z σ H e v Q q =>
  h z σ H e v _ fun x H1 d' m1 s a p => by
    obtain ⟨rfl, rfl⟩ := p
    obtain ⟨c, xs, rfl, n, hc, hl⟩ := at_lst a
    have ex := at_ints (is := [i, j]) hl
    rw [ex] at hc
    refine ⟨c, [i, j], rfl, .of hc, by show 2 < 64; decide, fun ns p pm pw np => ?_⟩
    have e : ns = [min i j, max i j] := by
      have len := pm.length_eq
      match ns, len with
      | [x, y], _ =>
        have h1 : x ≤ y := by
          have := List.pairwise_cons.mp pw
          exact this.1 y (by simp)
        have hx : x ∈ [i, j] := pm.subset (by simp)
        have hy : y ∈ [i, j] := pm.subset (by simp)
        have hi : i ∈ [x, y] := pm.symm.subset (by simp)
        have hj : j ∈ [x, y] := pm.symm.subset (by simp)
        simp at hx hy hi hj
        have : x = min i j ∧ y = max i j := by omega
        rw [this.1, this.2]
    rw [e]
    exact (q.from s).newF s.vol np (mk_ints (is := [min i j, max i j])) ⟨rfl, rfl⟩
/-- pairs of small numbers as the library's sorts see them -/
abbrev p2 (t : Nat × Nat) : List Int := [(t.1 : Int), (t.2 : Int)]
abbrev dp (t : Nat × Nat) : D := .tup [.int (t.1 : Int), .int (t.2 : Int)]
def cd (t : Nat × Nat) : Nat := t.1 * 64 + t.2
theorem code_p2 (t : Nat × Nat) : TS.code 64 (p2 t) = (cd t : Int) := by
  show (t.1 : Int) * 64 ^ 1 + ((t.2 : Int) * 64 ^ 0 + 0) = _
  unfold cd
  omega
theorem bd_p2 {t : Nat × Nat} (h : t.1 < 64 ∧ t.2 < 64) : TS.Bd 64 (p2 t) := fun x hx => by
  simp at hx
  rcases hx with rfl | rfl <;> omega
/-- rising -/
def srt (L : List (Nat × Nat)) : List (Nat × Nat) := L.mergeSort fun a b => decide (cd a ≤ cd b)
theorem cd_inj {a b : Nat × Nat} (ha : a.2 < 64) (hb : b.2 < 64) (h : cd a = cd b) : a = b := by
  unfold cd at h
  refine Prod.ext (by omega) (by omega)
theorem srt_perm (L : List (Nat × Nat)) : (srt L).Perm L := List.mergeSort_perm _ _
theorem srt_sorted (L : List (Nat × Nat)) : (srt L).Pairwise fun a b => cd a ≤ cd b := by
  have := List.pairwise_mergeSort (le := fun a b => decide (cd a ≤ cd b)) (fun a b c h1 h2 => by simp at *; omega) (fun a b => by simp; omega) L
  exact this.imp fun h => by simpa using h
theorem srt_uniq {L M : List (Nat × Nat)} (h : M.Perm L) (hs : M.Pairwise fun a b => cd a ≤ cd b) (hb : ∀ t ∈ L, t.2 < 64) : M = srt L := by
  refine List.Perm.eq_of_pairwise (le := fun a b => cd a ≤ cd b) (fun a b ha hb' h1 h2 => ?_) hs (srt_sorted L) (h.trans (srt_perm L).symm)
  exact cd_inj (hb a (h.subset ha)) (hb b ((srt_perm L).subset hb')) (Nat.le_antisymm h1 h2)
theorem dp_at {z : Zs} {H : Hp} {t : Nat × Nat} {x : V} (h : At (mm z m) H (dp t) x) : ∃ b, x = .ref b ∧ H b = some (.tup ((p2 t).map V.int)) := by
  obtain ⟨b, xs, rfl, n, hb, hl⟩ := at_tup h
  rw [at_ints (is := p2 t) hl] at hb
  exact ⟨b, rfl, hb⟩
theorem dps_at {z : Zs} {H : Hp} : ∀ {L : List (Nat × Nat)} {xs : List V}, AtL (mm z m) H (L.map dp) xs → ∃ ks : List (Addr × List Int), xs = ks.map (fun p => V.ref p.1) ∧ ks.map (·.2) = L.map p2 ∧ ∀ p ∈ ks, H p.1 = some (.tup (p.2.map V.int))
  | [], _, h => ⟨[], h.inv0, rfl, by simp⟩
  | t :: L, _, h => by
    obtain ⟨v, vs, rfl, h1, h2⟩ := h.inv
    obtain ⟨b, rfl, hb⟩ := dp_at h1
    obtain ⟨ks, rfl, e2, e3⟩ := dps_at h2
    exact ⟨(b, p2 t) :: ks, rfl, by simp [e2], fun p hp => by
      rcases List.mem_cons.mp hp with rfl | hp
      · exact hb
      · exact e3 p hp⟩
theorem at_dps {z : Zs} {H : Hp} (v : Vol z m H) : ∀ {L : List (Nat × Nat)} {ks : List (Addr × List Int)}, ks.map (·.2) = L.map p2 → (∀ p ∈ ks, H p.1 = some (.tup (p.2.map V.int))) → AtL (mm z m) H (L.map dp) (ks.map fun p => V.ref p.1)
  | [], [], _, _ => .nil
  | [], _ :: _, h, _ => by cases h
  | _ :: _, [], h, _ => by cases h
  | t :: L, p :: ks, h, hk => by
    simp only [List.map_cons, List.cons.injEq] at h
    refine .cons ?_ (at_dps v h.2 fun q hq => hk q (List.mem_cons_of_mem _ hq))
    have e := hk p List.mem_cons_self
    rw [h.1] at e
    exact mk_tup (v.tup e) e (mk_ints (is := p2 t))
theorem p2_inj {a b : Nat × Nat} (h : p2 a = p2 b) : a = b := by
  simp only [p2, List.cons.injEq, and_true] at h
  exact Prod.ext (Int.ofNat.inj h.1) (Int.ofNat.inj h.2)
theorem map_p2 {ks : List (List Int)} {L : List (Nat × Nat)} (h : ∀ k ∈ ks, k ∈ L.map p2) : ∃ M : List (Nat × Nat), ks = M.map p2 ∧ ∀ t ∈ M, t ∈ L := by
  induction ks with
  | nil => exact ⟨[], rfl, by simp⟩
  | cons k ks ih =>
    obtain ⟨M, rfl, hM⟩ := ih fun x hx => h x (List.mem_cons_of_mem _ hx)
    obtain ⟨t, ht, rfl⟩ := List.mem_map.mp (h k List.mem_cons_self)
    exact ⟨t :: M, rfl, fun x hx => by
      rcases List.mem_cons.mp hx with rfl | hx
      · exact ht
      · exact hM x hx⟩
/-- sorted of a list of pairs -/
theorem ev_sortU {L : List (Nat × Nat)} (h : Ev1 r m te (.lst (L.map dp))) (hL : L.length < 64) (hb : ∀ t ∈ L, t.1 < 64 ∧ t.2 < 64) : Ev1 r m (tCB (rSortU K 2 64) (tCons te tNil)) (.lst ((srt L).map dp)) := fun z σ H e v Q q =>
  h z σ H e v _ fun x H1 d' m1 s a p => by
    obtain ⟨rfl, rfl⟩ := p
    obtain ⟨c, xs, rfl, n, hc, hl⟩ := at_lst a
    obtain ⟨ks, rfl, e2, e3⟩ := dps_at hl
    have lk : ks.length = L.length := by have := congrArg List.length e2; simpa using this
    refine ⟨c, _, rfl, .of hc, by rw [List.length_map, lk]; exact hL, fun y hy => ?_, fun ys p pm pw np => ?_⟩
    · obtain ⟨k, hk, rfl⟩ := List.mem_map.mp hy
      have : k.2 ∈ L.map p2 := by rw [← e2]; exact List.mem_map_of_mem hk
      obtain ⟨t, ht, et⟩ := List.mem_map.mp this
      exact ⟨k.2, ⟨k.1, rfl, .of (e3 k hk)⟩, by rw [← et]; rfl, by rw [← et]; exact bd_p2 (hb t ht)⟩
    · -- ys is the refs of a permutation of ks
      have hex : ∀ (ys : List V) (ks : List (Addr × List Int)), ys.Perm (ks.map fun p => V.ref p.1) → ∃ ks' : List (Addr × List Int), ks'.Perm ks ∧ ys = ks'.map fun p => V.ref p.1 := fun ys => by
        induction ys with
        | nil => intro ks hp; exact ⟨[], by have := hp.length_eq; simp at this; rw [List.length_eq_zero_iff.mp this.symm], rfl⟩
        | cons y ys ih =>
          intro ks hp
          have hy : y ∈ ks.map fun p => V.ref p.1 := hp.subset List.mem_cons_self
          obtain ⟨k, hk, rfl⟩ := List.mem_map.mp hy
          obtain ⟨l1, l2, rfl⟩ := List.append_of_mem hk
          rw [List.map_append, List.map_cons] at hp
          have hp2 : ys.Perm ((l1 ++ l2).map fun p => V.ref p.1) := by
            rw [List.map_append]
            exact (List.perm_cons _).mp (hp.trans List.perm_middle)
          obtain ⟨ks', h1, h2⟩ := ih _ hp2
          exact ⟨k :: ks', (h1.cons k).trans List.perm_middle.symm, by rw [h2]; rfl⟩
      obtain ⟨ks', pk, rfl⟩ := hex ys ks pm
      have e3' : ∀ p ∈ ks', H1 p.1 = some (.tup (p.2.map V.int)) := fun p hp => e3 p (pk.subset hp)
      obtain ⟨M, eM, hM⟩ := map_p2 (ks := ks'.map (·.2)) (L := L) fun k hk => by rw [← e2]; exact (pk.map _).subset hk
      have pM : M.Perm L := by
        have h1 : (M.map p2).Perm (L.map p2) := by rw [← eM, ← e2]; exact pk.map _
        have h2 : ∀ (M L : List (Nat × Nat)), (M.map p2).Perm (L.map p2) → M.Perm L := fun M => by
          induction M with
          | nil => intro L h; have := h.length_eq; simp at this; rw [List.length_eq_zero_iff.mp this.symm]
          | cons t M ih =>
            intro L h
            obtain ⟨u, hu, eu⟩ := List.mem_map.mp (h.subset (List.mem_cons_self : p2 t ∈ p2 t :: M.map p2))
            obtain rfl := p2_inj eu
            obtain ⟨l1, l2, rfl⟩ := List.append_of_mem hu
            rw [List.map_append, List.map_cons, List.map_cons] at h
            have h3 := (List.perm_cons _).mp (h.trans List.perm_middle)
            rw [← List.map_append] at h3
            exact ((ih _ h3).cons u).trans List.perm_middle.symm
        exact h2 M L h1
      have sM : M.Pairwise fun a b => cd a ≤ cd b := by
        have h1 : ks'.Pairwise fun x y => TS.code 64 x.2 ≤ TS.code 64 y.2 := by
          have h0 := List.pairwise_map.mp pw
          refine List.Pairwise.imp_of_mem (fun {x y} hx hy hxy => ?_) h0
          exact hxy x.2 y.2 ⟨x.1, rfl, .of (e3' x hx)⟩ ⟨y.1, rfl, .of (e3' y hy)⟩
        have h2 : (ks'.map (·.2)).Pairwise fun x y => TS.code 64 x ≤ TS.code 64 y := List.pairwise_map.mpr h1
        rw [eM] at h2
        refine (List.pairwise_map.mp h2).imp fun {a b} hab => ?_
        rw [code_p2, code_p2] at hab
        omega
      rw [← srt_uniq pM sM fun t ht => (hb t ht).2] at q
      exact (q.from s).newF s.vol np (at_dps s.vol eM e3') ⟨rfl, rfl⟩
/-- sorted(set(..)) of a list of pairs: strictly rising, the same members -/
theorem ev_sortSet {L : List (Nat × Nat)} (h : Ev1 r m te (.lst (L.map dp))) (hL : L.length < 64) (hb : ∀ t ∈ L, t.1 < 64 ∧ t.2 < 64)
    (k : ∀ M : List (Nat × Nat), M.Pairwise (fun a b => cd a < cd b) → (∀ t, t ∈ M ↔ t ∈ L) → M.length < 64 → R (.lst (M.map dp)) m) : Ev r m (tCB (rSortedT K P w) (tCons (tCB (rSetOfT K P w) (tCons te tNil)) tNil)) R := fun z σ H e v Q q =>
  h z σ H e v _ fun x H1 d' m1 s a p => by
    obtain ⟨rfl, rfl⟩ := p
    obtain ⟨c, xs, rfl, n, hc, hl⟩ := at_lst a
    obtain ⟨ks, rfl, e2, e3⟩ := dps_at hl
    have lk : ks.length = L.length := by have := congrArg List.length e2; simpa using this
    refine ⟨c, ks, rfl, .of hc, fun p hp => .of (e3 p hp), by rw [lk]; exact hL, fun st L2 nst hsub hall => ?_⟩
    have s2 : Stp z m1 H1 m1 (upd H1 st (SetTO P w st L2)) := .new s.vol nst
    have e4 : ∀ p ∈ L2, upd H1 st (SetTO P w st L2) p.1 = some (.tup (p.2.map V.int)) := fun p hp => (s2.ext p.1 _ (e3 p (hsub p hp)) (s.vol.tup (e3 p (hsub p hp)))).1
    have mem2 : ∀ p ∈ L2, ∃ t ∈ L, p.2 = p2 t := fun p hp => by
      have : p.2 ∈ L.map p2 := by rw [← e2]; exact List.mem_map_of_mem (hsub p hp)
      obtain ⟨t, ht, et⟩ := List.mem_map.mp this
      exact ⟨t, ht, et.symm⟩
    refine ⟨st, L2, 2, 64, rfl, upd_same, fun p hp => .of (e4 p hp), by decide, fun p hp => ?_, fun L3 q3 pm nd hlt pw np => ?_⟩
    · obtain ⟨t, ht, et⟩ := mem2 p hp
      rw [et]
      exact ⟨rfl, bd_p2 (hb t ht)⟩
    · obtain ⟨M, eM, hM⟩ := map_p2 (ks := L3.map (·.2)) (L := L) fun k hk => by
        obtain ⟨p, hp, rfl⟩ := List.mem_map.mp hk
        obtain ⟨t, ht, et⟩ := mem2 p (pm.subset hp)
        rw [et]; exact List.mem_map_of_mem ht
      have ndM : M.Nodup := by
        rw [eM] at nd
        exact (List.pairwise_map.mp nd).imp fun hab q => hab (by rw [q])
      have sM : M.Pairwise fun a b => cd a ≤ cd b := by
        have h2 : (L3.map (·.2)).Pairwise fun x y => TS.code 64 x ≤ TS.code 64 y := List.pairwise_map.mpr pw
        rw [eM] at h2
        refine (List.pairwise_map.mp h2).imp fun {a b} hab => ?_
        rw [code_p2, code_p2] at hab
        omega
      have ltM : M.Pairwise fun a b => cd a < cd b := by
        refine List.Pairwise.imp_of_mem (fun {a b} ha hb' hab => ?_) (sM.and ndM)
        have h9 : cd a ≠ cd b := fun e => hab.2 (cd_inj (hb a (hM a ha)).2 (hb b (hM b hb')).2 e)
        exact Nat.lt_of_le_of_ne hab.1 h9
      have lM : M.length = L3.length := by have := congrArg List.length eM; simpa using this.symm
      have s3 := s.trans s2
      refine (q.from s3).newF s2.vol np (at_dps s2.vol eM fun p hp => e4 p (pm.subset hp)) (k M ltM (fun t => ⟨hM t, fun ht => ?_⟩) (by rw [lM]; exact hlt))
      have h5 : p2 t ∈ ks.map (·.2) := by rw [e2]; exact List.mem_map_of_mem ht
      obtain ⟨kk, hk, ek⟩ := List.mem_map.mp h5
      have h6 := hall kk hk
      have h7 : kk.2 ∈ L3.map (·.2) := (pm.symm.map (·.2)).subset h6
      rw [eM, ek] at h7
      obtain ⟨u, hu, eu⟩ := List.mem_map.mp h7
      rw [← p2_inj eu]; exact hu
end
end DL
/-! DL8: the rules by readings, for the words that follow a reading. -/
namespace DL
open PySem PySem.Spec PyProof.Rows L2
section
variable {r : Rho} {m : Mu} {ta tb tc te : TE} {i j : Int} {K : PySem.W.Frag} {d d1 d2 : D} {ds es : List D} {l : Addr} {b c : Bool}
theorem ev_add (ha : Ev1 r m ta (.int i)) (hb : Ev1 r m tb (.int j)) : Ev1 r m (tOp rAddI ta tb) (.int (i + j)) := ev_op1 ha hb o_add
theorem ev_sub (ha : Ev1 r m ta (.int i)) (hb : Ev1 r m tb (.int j)) : Ev1 r m (tOp rSubI ta tb) (.int (i - j)) := ev_op1 ha hb o_sub
theorem ev_lt (ha : Ev1 r m ta (.int i)) (hb : Ev1 r m tb (.int j)) : Ev1 r m (tOp rLtI ta tb) (.bl (decide (i < j))) := ev_op1 ha hb o_lt
theorem ev_le (ha : Ev1 r m ta (.int i)) (hb : Ev1 r m tb (.int j)) : Ev1 r m (tOp rLeI ta tb) (.bl (decide (i ≤ j))) := ev_op1 ha hb o_le
theorem ev_gt (ha : Ev1 r m ta (.int i)) (hb : Ev1 r m tb (.int j)) : Ev1 r m (tOp rGtI ta tb) (.bl (decide (j < i))) := ev_op1 ha hb o_gt
theorem ev_ge (ha : Ev1 r m ta (.int i)) (hb : Ev1 r m tb (.int j)) : Ev1 r m (tOp rGeI ta tb) (.bl (decide (j ≤ i))) := ev_op1 ha hb o_ge
theorem ev_mod (ha : Ev1 r m ta (.int i)) (hb : Ev1 r m tb (.int j)) (h : 0 < j) : Ev1 r m (tOp rModI ta tb) (.int (i % j)) := ev_op1 ha hb (o_mod h)
theorem ev_div (ha : Ev1 r m ta (.int i)) (hb : Ev1 r m tb (.int j)) (h : 0 < j ∧ j < 1073741824) : Ev1 r m (tOp rDivN ta tb) (.int (i / j)) := ev_op1 ha hb (o_div h)
theorem ev_pow (ha : Ev1 r m ta (.int i)) (hb : Ev1 r m tb (.int j)) (h : 0 ≤ j ∧ j ≤ 1000000 ∧ i.natAbs < 2 ^ 64) : Ev1 r m (tOp rPowI ta tb) (.int (i ^ j.toNat)) := ev_op1 ha hb (o_pow h)
theorem ev_mul (ha : Ev1 r m ta (.int i)) (hb : Ev1 r m tb (.int j)) (h : CMulW i j) : Ev1 r m (tOp rMulW ta tb) (.int (i * j)) := ev_op1 ha hb (o_mul h)
theorem ev_ixT (ha : Ev1 r m ta (.tup ds)) (hb : Ev1 r m tb (.int i)) (h : atI ds i = some d) : Ev1 r m (tOp (rIxT K) ta tb) d := ev_op1 ha hb (o_ixT h)
theorem ev_ixL (ha : Ev1 r m ta (.lst ds)) (hb : Ev1 r m tb (.int i)) (h : atI ds i = some d) : Ev1 r m (tOp (rIxL K) ta tb) d := ev_op1 ha hb (o_ixL h)
theorem ev_ixV (ha : Ev1 r m ta (.vol l)) (hb : Ev1 r m tb (.int i)) (hm : m l = some (.lst ds)) (h : atI ds i = some d) : Ev1 r m (tOp (rIxL K) ta tb) d := ev_op1 ha hb (o_ixV hm h)
theorem ev_ixX (ha : Ev1 r m ta d1) (h1 : d1 = .tup ds ∨ d1 = .lst ds) (hb : Ev1 r m tb (.int i)) (h : atI ds i = some d) : Ev1 r m (tOp (rIx K) ta tb) d := by
  rcases h1 with rfl | rfl
  · exact ev_op1 ha hb fun z H x y v hx hy Q q => .inr (.inl (o_ixT h z H x y v hx hy Q q))
  · exact ev_op1 ha hb fun z H x y v hx hy Q q => .inl (o_ixL h z H x y v hx hy Q q)
theorem ev_eqS (ha : Ev1 r m ta d1) (hb : Ev1 r m tb d2) (h : scalD d1 d2 = true) : Ev1 r m (tOp rEq ta tb) (.bl (eqS d1 d2)) := ev_op1 ha hb (o_eq h)
theorem ev_neS (ha : Ev1 r m ta d1) (hb : Ev1 r m tb d2) (h : scalD d1 d2 = true) : Ev1 r m (tOp rNe ta tb) (.bl (!eqS d1 d2)) := ev_op1 ha hb (o_ne h)
theorem ev_eqI (ha : Ev1 r m ta (.int i)) (hb : Ev1 r m tb (.int j)) : Ev1 r m (tOp rEq ta tb) (.bl (decide (i = j))) := ev_op1 ha hb (o_eq rfl)
theorem ev_neI (ha : Ev1 r m ta (.int i)) (hb : Ev1 r m tb (.int j)) : Ev1 r m (tOp rNe ta tb) (.bl (!decide (i = j))) := ev_op1 ha hb (o_ne rfl)
theorem ev_eqD (ha : Ev1 r m ta d1) (hb : Ev1 r m tb d2) (h1 : okD d1 = true) (h2 : okD d2 = true) (h : b = true ↔ d1 = d2) : Ev1 r m (tOp (rEqD K) ta tb) (.bl b) := ev_op1 ha hb (o_eqD h1 h2 h)
theorem ev_neD (ha : Ev1 r m ta d1) (hb : Ev1 r m tb d2) (h1 : okD d1 = true) (h2 : okD d2 = true) (h : b = false ↔ d1 = d2) : Ev1 r m (tOp (rNeD K) ta tb) (.bl b) := ev_op1 ha hb (o_neD h1 h2 h)
theorem ev_eqV (ha : Ev1 r m ta (.vol l)) (hb : Ev1 r m tb d2) (hm : m l = some (.lst ds)) (h1 : okD (.lst ds) = true) (h2 : okD d2 = true) (h : b = true ↔ D.lst ds = d2) : Ev1 r m (tOp (rEqD K) ta tb) (.bl b) := ev_op1 ha hb (o_eqV hm h1 h2 h)
theorem ev_neV (ha : Ev1 r m ta (.vol l)) (hb : Ev1 r m tb d2) (hm : m l = some (.lst ds)) (h1 : okD (.lst ds) = true) (h2 : okD d2 = true) (h : b = false ↔ D.lst ds = d2) : Ev1 r m (tOp (rNeD K) ta tb) (.bl b) := ev_op1 ha hb (o_neV hm h1 h2 h)
/-- of either kind of list, against the empty one -/
theorem lv_ne0 (hv : LV m d1 ds) (ha : Ev1 r m ta d1) (h1 : okD (.lst ds) = true) : Ev1 r m (tOp (rNeD K) ta (tLst tNil)) (.bl (!ds.isEmpty)) := by
  have h2 : okD (.lst []) = true := by decide
  have hb : (!ds.isEmpty) = false ↔ D.lst ds = .lst [] := by cases ds <;> simp
  rcases hv with rfl | ⟨l, rfl, hm⟩
  · exact ev_neD ha (ev_lst1 eva_nil) h1 h2 hb
  · exact ev_neV ha (ev_lst1 eva_nil) hm h1 h2 hb
theorem lv_eq0 (hv : LV m d1 ds) (ha : Ev1 r m ta d1) (h1 : okD (.lst ds) = true) : Ev1 r m (tOp (rEqD K) ta (tLst tNil)) (.bl ds.isEmpty) := by
  have h2 : okD (.lst []) = true := by decide
  have hb : ds.isEmpty = true ↔ D.lst ds = .lst [] := by cases ds <;> simp
  rcases hv with rfl | ⟨l, rfl, hm⟩
  · exact ev_eqD ha (ev_lst1 eva_nil) h1 h2 hb
  · exact ev_eqV ha (ev_lst1 eva_nil) hm h1 h2 hb
theorem ev_ixLV (hv : LV m d1 ds) (ha : Ev1 r m ta d1) (hb : Ev1 r m tb (.int i)) (h : atI ds i = some d) : Ev1 r m (tOp (rIxL K) ta tb) d := by
  rcases hv with rfl | ⟨l, rfl, hm⟩
  · exact ev_ixL ha hb h
  · exact ev_ixV ha hb hm h
theorem ev_lenLV (hv : LV m d1 ds) (ha : Ev1 r m ta d1) : Ev1 r m (tCB (rLenS K) (tCons ta tNil)) (.int (ds.length : Nat)) := by
  rcases hv with rfl | ⟨l, rfl, hm⟩
  · exact ev_cb1 (eva_cons1 ha eva_nil) c_lenL
  · exact ev_cb1 (eva_cons1 ha eva_nil) (c_lenV hm)
theorem ev_min2 (ha : Ev1 r m ta (.int i)) (hb : Ev1 r m tb (.int j)) : Ev1 r m (tCB rMin2 (tCons ta (tCons tb tNil))) (.int (min i j)) := ev_cb1 (eva_cons1 ha (eva_cons1 hb eva_nil)) c_min
theorem ev_max2 (ha : Ev1 r m ta (.int i)) (hb : Ev1 r m tb (.int j)) : Ev1 r m (tCB rMax2 (tCons ta (tCons tb tNil))) (.int (max i j)) := ev_cb1 (eva_cons1 ha (eva_cons1 hb eva_nil)) c_max
theorem ev_lenT (ha : Ev1 r m ta (.tup ds)) : Ev1 r m (tCB (rLenS K) (tCons ta tNil)) (.int (ds.length : Nat)) := ev_cb1 (eva_cons1 ha eva_nil) c_lenT
theorem ev_lenL (ha : Ev1 r m ta (.lst ds)) : Ev1 r m (tCB (rLenS K) (tCons ta tNil)) (.int (ds.length : Nat)) := ev_cb1 (eva_cons1 ha eva_nil) c_lenL
theorem ev_lenV (ha : Ev1 r m ta (.vol l)) (hm : m l = some (.lst ds)) : Ev1 r m (tCB (rLenS K) (tCons ta tNil)) (.int (ds.length : Nat)) := ev_cb1 (eva_cons1 ha eva_nil) (c_lenV hm)
theorem ev_lenD {kvs} (ha : Ev1 r m ta (.dic kvs)) : Ev1 r m (tCB rLenT (tCons ta tNil)) (.int (kvs.length : Nat)) := ev_cb1 (eva_cons1 ha eva_nil) c_lenD
theorem ev_int1 (ha : Ev1 r m ta (.bl b)) : Ev1 r m (tCB rInt1 (tCons ta tNil)) (.int (if b = true then 1 else 0)) := ev_cb1 (eva_cons1 ha eva_nil) c_intB
theorem ev_all {bs : List Bool} (ha : Ev1 r m ta (.lst (bs.map D.bl))) : Ev1 r m (tCB (rAll K) (tCons ta tNil)) (.bl (bs.all id)) := ev_cb1 (eva_cons1 ha eva_nil) (c_all rfl)
theorem ev_catT (ha : Ev1 r m ta (.tup ds)) (hb : Ev1 r m tb (.tup es)) (hz : ds.length + es.length ≤ 16777216) : Ev1 r m (tOp (rCatA K) ta tb) (.tup (ds ++ es)) := ev_op1 ha hb (o_catT hz)
theorem ev_catL (h1 : LV m d1 ds) (h2 : LV m d2 es) (ha : Ev1 r m ta d1) (hb : Ev1 r m tb d2) (hz : ds.length + es.length ≤ 16777216) : Ev1 r m (tOp rCat ta tb) (.lst (ds ++ es)) := ev_op1 ha hb (o_cat h1 h2 hz (.inl rfl))
theorem ev_inTn {is : List Nat} {i : Nat} (ha : Ev1 r m ta (.int (i : Int))) (hb : Ev1 r m tb (.tup (is.map fun (n : Nat) => D.int n))) : Ev1 r m (tOp (rIn K false) ta tb) (.bl (decide (i ∈ is))) := by
  have e : (is.map fun (n : Nat) => D.int n) = (is.map fun (n : Nat) => (n : Int)).map D.int := by rw [List.map_map]; rfl
  have q := ev_op1 ha hb (o_inT (K := K) (m := m) e)
  refine ev_to q ?_
  congr 1
  rw [Bool.eq_iff_iff, decide_eq_true_eq, decide_eq_true_eq, List.mem_map]
  constructor
  · rintro ⟨a, h, e⟩; exact (Int.ofNat.inj e) ▸ h
  · intro h; exact ⟨i, h, rfl⟩
theorem ev_notInTn {is : List Nat} {i : Nat} (ha : Ev1 r m ta (.int (i : Int))) (hb : Ev1 r m tb (.tup (is.map fun (n : Nat) => D.int n))) : Ev1 r m (tOp (rIn K true) ta tb) (.bl (!decide (i ∈ is))) := by
  have e : (is.map fun (n : Nat) => D.int n) = (is.map fun (n : Nat) => (n : Int)).map D.int := by rw [List.map_map]; rfl
  have q := ev_op1 ha hb (o_notInT (K := K) (m := m) e)
  refine ev_to q ?_
  congr 2
  rw [Bool.eq_iff_iff, decide_eq_true_eq, decide_eq_true_eq, List.mem_map]
  constructor
  · rintro ⟨a, h, e⟩; exact (Int.ofNat.inj e) ▸ h
  · intro h; exact ⟨i, h, rfl⟩
theorem evt_t {tt : TE} (h : Ev1 r m tt (.bl b)) (e : b = c) : EvT1 r m (tTest tt) c := e ▸ evt_test1 h
theorem evt_yes : EvT1 r m tYes true := fun z σ H e v Q q => q true H m (.refl v) ⟨rfl, rfl⟩
end
end DL
/-! DL9: comprehensions and loops over lists of a type of one's own. -/
namespace DL
open PySem PySem.Spec PyProof.Rows L2
section
variable {α : Type} {A : List Anc} {r r' : Rho} {m m' : Mu} {P : Post} {t w : TS} {te tl : TE} {tt : TT} {wi : TI} {g : TG} {Keep : Mu → Prop} {vs : List Nat} {R : RR}
theorem ev_lcT (L : List α) (e f : α → D) (p : α → Bool) (h : Src r m wi Keep (SIs (L.map e) m)) (hK : Keep m)
    (hs : ∀ a, a ∈ L → ∃ r' is, (∀ k ∈ is, k ∈ vs) ∧ Gd (wipeR r vs) m g (e a) r' is ∧ EvT1 r' m tt (p a) ∧ (p a = true → Ev1 r' m te (f a))) (hl : L.length ≤ 16777216) : Ev1 r m (tLc wi g tt te vs) (.lst ((L.filter p).map f)) := ev_lc h fun ds' m1 q => by
  obtain ⟨rfl, rfl⟩ := q
  refine ⟨fun i acc m' => m' = m1 ∧ acc = ((L.take i).filter p).map f, ⟨rfl, by simp⟩, fun i acc m' q => q.1 ▸ hK, fun i d acc m' hd q => ?_, by rw [List.length_map]; exact hl, .inl fun acc m' q => ?_⟩
  · obtain ⟨rfl, rfl⟩ := q
    rw [List.getElem?_map] at hd
    cases ha : L[i]? with
    | none => rw [ha] at hd; cases hd
    | some a =>
      rw [ha] at hd
      cases hd
      obtain ⟨r', is, h1, h2, h3, h4⟩ := hs a (List.mem_of_getElem? ha)
      refine ⟨r', is, h1, h2, evt_mono h3 fun b m2 q => ?_⟩
      obtain ⟨rfl, rfl⟩ := q
      have et : (L.take (i + 1)).filter p = (L.take i).filter p ++ (if p a = true then [a] else []) := by
        rw [List.take_succ, ha, List.filter_append]
        simp [List.filter_cons]
      cases hp : p a with
      | true =>
        rw [if_pos rfl]
        refine ev_mono (h4 hp) fun y m3 q => ?_
        obtain ⟨rfl, rfl⟩ := q
        exact ⟨rfl, by rw [et, if_pos hp, List.map_append]; rfl⟩
      | false =>
        rw [if_neg Bool.false_ne_true]
        exact ⟨rfl, by rw [et, if_neg (by rw [hp]; decide), List.append_nil]⟩
  · obtain ⟨rfl, rfl⟩ := q
    exact ⟨by rw [List.length_map, List.take_length], rfl⟩
theorem ev_lcM (L : List α) (e f : α → D) (h : Src r m wi Keep (SIs (L.map e) m)) (hK : Keep m)
    (hs : ∀ a, a ∈ L → ∃ r' is, (∀ k ∈ is, k ∈ vs) ∧ Gd (wipeR r vs) m g (e a) r' is ∧ Ev1 r' m te (f a)) (hl : L.length ≤ 16777216) : Ev1 r m (tLc wi g tYes te vs) (.lst (L.map f)) := by
  have q := ev_lcT (te := te) (tt := tYes) (vs := vs) L e f (fun _ => true) h hK (fun a ha => by
    obtain ⟨r', is, h1, h2, h3⟩ := hs a ha
    exact ⟨r', is, h1, h2, evt_yes, fun _ => h3⟩) hl
  rw [List.filter_eq_self.mpr (fun _ _ => rfl)] at q
  exact q
/-- for over such a list, reckoned alone -/
theorem q_forT (L : List α) (e : α → D) (J : Nat → Rho → Mu → Prop) (h : Src r m wi Keep (SIs (L.map e) m)) (j0 : J 0 r m) (jk : ∀ i r' m', J i r' m' → Keep m')
    (js : ∀ (B : Anc) i a r' m', B.M = dm m → L[i]? = some a → J i r' m' → ∃ r'' is, Gd r' m' g (e a) r'' is ∧ Wp (B :: A) r'' m' t { nx := J (i + 1), ct := J (i + 1), bk := fun r' m' => Wp A r' m' w P, rt := P.rt })
    (jd : ∀ r' m', J L.length r' m' → Wp A r' m' w P) : Wp A r m (tSeq (tFor wi g t) w) P :=
  q_for J h j0 jk (fun B i d r' m' hB hd hj => by
    rw [List.getElem?_map] at hd
    cases ha : L[i]? with
    | none => rw [ha] at hd; cases hd
    | some a => rw [ha] at hd; cases hd; exact js B i a r' m' hB ha hj) (fun r' m' hj => jd r' m' (by rw [List.length_map] at hj; exact hj))
theorem wp_forT (L : List α) (e : α → D) (J : Nat → Rho → Mu → Prop) (h : Src r m wi Keep (SIs (L.map e) m)) (j0 : J 0 r m) (jk : ∀ i r' m', J i r' m' → Keep m')
    (js : ∀ (B : Anc) i a r' m', B.M = dm m → L[i]? = some a → J i r' m' → ∃ r'' is, Gd r' m' g (e a) r'' is ∧ Wp (B :: A) r'' m' t { P with nx := J (i + 1), ct := J (i + 1), bk := P.nx })
    (jd : ∀ r' m', J L.length r' m' → P.nx r' m') : Wp A r m (tFor wi g t) P :=
  wp_for h fun ds' m1 q => by
    obtain ⟨rfl, rfl⟩ := q
    refine ⟨J, j0, jk, fun B i d r' m' hB hd hj => ?_, fun r' m' hj => jd r' m' (by rw [List.length_map] at hj; exact hj)⟩
    rw [List.getElem?_map] at hd
    cases ha : L[i]? with
    | none => rw [ha] at hd; cases hd
    | some a => rw [ha] at hd; cases hd; exact js B i a r' m' hB ha hj
theorem src_rng2' {ta : TA} {i j : Nat} (h : EvA1 r m ta [.int (i : Int), .int (j : Int)]) (hi : i < 100000000) (hj : j < 100000000) : Src r m (iRng2 ta) KT (SIs ((List.range (j - i)).map fun k => D.int ((i + k : Nat) : Int)) m) := src_rng2 h fun ds m1 q => by
  refine ⟨i, j, q.1, by omega, ?_, q.2⟩
  unfold rngD
  have e : ((j : Int) - (i : Int)).toNat = j - i := by omega
  rw [e]
  apply List.map_congr_left
  intro k _
  congr 1
theorem src_rngN {ta : TA} {n : Nat} (h : EvA1 r m ta [.int (n : Int)]) (hn : n < 100000000) : Src r m (iRng1 ta) KT (SIs ((List.range n).map fun (k : Nat) => D.int (k : Int)) m) := by
  have q := src_rng1' (r := r) (m := m) h hn
  have e : rngD 0 n = (List.range n).map fun (k : Nat) => D.int (k : Int) := by
    unfold rngD
    apply List.map_congr_left
    intro k _
    rw [Int.zero_add]
  rw [e] at q
  exact q
end
end DL
namespace DL
open PySem PySem.Spec PyProof.Rows L2
theorem q_cut {A : List Anc} {r : Rho} {m : Mu} {t u : TS} {P : Post} (Mid : Rho → Mu → Prop) (h : Wp A r m t { P with nx := Mid }) (k : ∀ r' m', Mid r' m' → Wp A r' m' u P) : Wp A r m (tSeq t u) P :=
  wp_seq (wp_post h k (fun _ _ x => x) (fun _ _ x => x) fun _ _ x => x)
end DL
/-! DL10: comprehensions whose source or whose body moves the store. -/
namespace DL
open PySem PySem.Spec PyProof.Rows L2
section
variable {α β : Type} {A : List Anc} {r r' : Rho} {m m' : Mu} {P : Post} {t w : TS} {te tl : TE} {tt : TT} {wi : TI} {g : TG} {Keep : Mu → Prop} {vs : List Nat} {R : RR} {S : List D → Mu → Prop}
theorem ev_lcR (h : Src r m wi Keep S) (k : ∀ ds m1, S ds m1 → ∃ (L : List α) (e f : α → D) (p : α → Bool), ds = L.map e ∧ Keep m1 ∧ (∀ a, a ∈ L → ∃ r' is, (∀ k ∈ is, k ∈ vs) ∧ Gd (wipeR r vs) m1 g (e a) r' is ∧ EvT1 r' m1 tt (p a) ∧ (p a = true → Ev1 r' m1 te (f a))) ∧ L.length ≤ 16777216 ∧ R (.lst ((L.filter p).map f)) m1) : Ev r m (tLc wi g tt te vs) R := ev_lc h fun ds m1 q => by
  obtain ⟨L, e, f, p, rfl, hK, hs, hl, hR⟩ := k ds m1 q
  refine ⟨fun i acc m' => m' = m1 ∧ acc = ((L.take i).filter p).map f, ⟨rfl, by simp⟩, fun i acc m' q => q.1 ▸ hK, fun i d acc m' hd q => ?_, by rw [List.length_map]; exact hl, .inl fun acc m' q => ?_⟩
  · obtain ⟨rfl, rfl⟩ := q
    rw [List.getElem?_map] at hd
    cases ha : L[i]? with
    | none => rw [ha] at hd; cases hd
    | some a =>
      rw [ha] at hd
      cases hd
      obtain ⟨r', is, h1, h2, h3, h4⟩ := hs a (List.mem_of_getElem? ha)
      refine ⟨r', is, h1, h2, evt_mono h3 fun b m2 q => ?_⟩
      obtain ⟨rfl, rfl⟩ := q
      have et : (L.take (i + 1)).filter p = (L.take i).filter p ++ (if p a = true then [a] else []) := by
        rw [List.take_succ, ha, List.filter_append]
        simp [List.filter_cons]
      cases hp : p a with
      | true =>
        rw [if_pos rfl]
        refine ev_mono (h4 hp) fun y m3 q => ?_
        obtain ⟨rfl, rfl⟩ := q
        exact ⟨rfl, by rw [et, if_pos hp, List.map_append]; rfl⟩
      | false =>
        rw [if_neg Bool.false_ne_true]
        exact ⟨rfl, by rw [et, if_neg (by rw [hp]; decide), List.append_nil]⟩
  · obtain ⟨rfl, rfl⟩ := q
    rw [List.length_map, List.take_length]; exact hR
/-- the body moves the store by a kept relation `T` -/
theorem ev_lcI (T : Mu → Prop) (L : List α) (e : α → D) (f : β → D) (Q : α → β → Prop) (h : Src r m wi Keep (SIs (L.map e) m)) (hT : T m) (hK : ∀ m', T m' → Keep m')
    (hs : ∀ a, a ∈ L → ∀ m1, T m1 → ∃ r' is, (∀ k ∈ is, k ∈ vs) ∧ Gd (wipeR r vs) m1 g (e a) r' is ∧ Ev r' m1 te fun d m2 => ∃ x, d = f x ∧ Q a x ∧ T m2) (hl : L.length ≤ 16777216)
    (hR : ∀ (xs : List β) m1, xs.length = L.length → (∀ (i : Nat) a x, L[i]? = some a → xs[i]? = some x → Q a x) → T m1 → R (.lst (xs.map f)) m1) : Ev r m (tLc wi g tYes te vs) R := ev_lc h fun ds m1 q => by
  obtain ⟨rfl, rfl⟩ := q
  refine ⟨fun i acc m' => ∃ xs : List β, acc = xs.map f ∧ xs.length = i ∧ (∀ (i : Nat) a x, L[i]? = some a → xs[i]? = some x → Q a x) ∧ T m', ⟨[], rfl, rfl, by simp, hT⟩, fun i acc m' q => by obtain ⟨_, _, _, _, q⟩ := q; exact hK _ q, fun i d acc m' hd q => ?_, by rw [List.length_map]; exact hl, .inl fun acc m' q => ?_⟩
  · obtain ⟨xs, rfl, hx, hq, ht⟩ := q
    rw [List.getElem?_map] at hd
    obtain ⟨a, ha, rfl⟩ := Option.map_eq_some_iff.mp hd
    obtain ⟨r', is, h1, h2, h3⟩ := hs a (List.mem_of_getElem? ha) m' ht
    refine ⟨r', is, h1, h2, evt_mono evt_yes fun b m2 q => ?_⟩
    obtain ⟨rfl, rfl⟩ := q
    rw [if_pos rfl]
    refine ev_mono h3 fun d m3 q => ?_
    obtain ⟨x, rfl, hqx, ht3⟩ := q
    refine ⟨xs ++ [x], by rw [List.map_append]; rfl, by rw [List.length_append, hx]; rfl, fun j b y hb hy => ?_, ht3⟩
    by_cases hj : j < xs.length
    · rw [List.getElem?_append_left hj] at hy; exact hq j b y hb hy
    · rw [List.getElem?_append_right (by omega)] at hy
      have e0 : j - xs.length = 0 := by
        cases e : j - xs.length with
        | zero => rfl
        | succ n => rw [e] at hy; simp at hy
      rw [e0] at hy
      cases hy
      have : j = i := by omega
      subst this
      rw [ha] at hb; cases hb; exact hqx
  · obtain ⟨xs, rfl, hx, hq, ht⟩ := q
    rw [List.length_map] at hx
    exact hR xs m' hx hq ht
end
end DL
namespace Hue
open PySem L2
def top (i : Nat) : Stmt := PySem.Challenge.pw_huebound_k61_whole_trees_changed.main.body.getD i (.Pass ⟨0, 0, 0, 0⟩)
end Hue
namespace Hue
open PySem PySem.Spec PyProof.Rows L2 DL
def t_may_go (K : PySem.W.Frag) : TS :=
  (tSeq (tIfS (tTest (tOp (rIn K false) (tVar 3) (tVar 2))) (tRet (tC (.bl false))) tNext)
  (tSeq (tFor (iEnumT K (tCons (tVar 2) tNil)) (gTup K 2 (gCons (gName 5) (gCons (gName 6) gNil))) (tSeq (tAsg (tOp (rInDT K) (tTup (tCons (tVar 5) (tCons (tCB (rLenS K) (tCons (tVar 2) tNil)) tNil))) (tOp (rIxT K) (tVar 0) (tC (.int 1)))) (gName 7))
  (tSeq (tAsg (tOp (rInDT K) (tTup (tCons (tCB rMin2 (tCons (tVar 6) (tCons (tVar 3) tNil))) (tCons (tCB rMax2 (tCons (tVar 6) (tCons (tVar 3) tNil))) tNil))) (tOp (rIxT K) (tVar 1) (tC (.int 1)))) (gName 8))
  (tIfS (tOr (tAnd (tB (tVar 7)) (tNot (tB (tVar 8)))) (tAnd (tB (tVar 4)) (tAnd (tB (tVar 8)) (tNot (tB (tVar 7)))))) (tRet (tC (.bl false))) tNext))))
  (tRet (tC (.bl true)))))
def t_longer_ways (K : PySem.W.Frag) (S_may_go : Sp) : TS :=
  (tRet (tLc (iRng1 (tCons (tOp (rIxT K) (tVar 1) (tC (.int 0))) tNil)) (gName 4) (tB (tCall S_may_go [] E0 (tCons (tVar 0) (tCons (tVar 1) (tCons (tVar 2) (tCons (tVar 4) (tCons (tVar 3) tNil))))))) (tOp (rCatA K) (tVar 2) (tTup (tCons (tVar 4) tNil))) [4]))
def t_first_way (K : PySem.W.Frag) (S_longer_ways : Sp) : TS :=
  (tSeq (tAsg (tLst (tCons (tTup tNil) tNil)) (gName 3))
  (tSeq (tWhile (tTest (tOp (rNeD K) (tVar 3) (tLst tNil))) (tSeq (tAsg (tBM0 K "list" rPop (tVar 3)) (gName 4))
  (tSeq (tIfS (tTest (tOp rEq (tCB (rLenS K) (tCons (tVar 4) tNil)) (tOp (rIxT K) (tVar 0) (tC (.int 0))))) (tRet (tVar 4)) tNext)
  (tDrop (tBM K "list" rExtend (tVar 3) (tCons (tRevL K (tCall S_longer_ways [] E0 (tCons (tVar 0) (tCons (tVar 1) (tCons (tVar 4) (tCons (tVar 2) tNil)))))) tNil))))))
  (tRet (tC .non))))
def t_like_way (K : PySem.W.Frag) (S_first_way : Sp) : TS :=
  (tSeq (tIfS (tTest (tOp rNe (tOp (rIxT K) (tVar 0) (tC (.int 0))) (tOp (rIxT K) (tVar 1) (tC (.int 0))))) (tRet (tC .non)) tNext)
  (tRet (tCall S_first_way [] E0 (tCons (tVar 0) (tCons (tVar 1) (tCons (tC (.bl true)) tNil))))))
def t_exchanges_of (K : PySem.W.Frag) (S_like_way : Sp) : TS :=
  (tSeq (tAsg (tLst (tCons (tTup tNil) tNil)) (gName 1))
  (tSeq (tFor (iTup K (tVar 0)) (gName 2) (tSeq (tAsg (tLc (iEnumT K (tCons (tVar 0) tNil)) (gTup K 2 (gCons (gName 4) (gCons (gName 5) gNil))) (tB (tNotN (tCall S_like_way [] E0 (tCons (tVar 2) (tCons (tVar 5) tNil))))) (tVar 4) [4, 5]) (gName 3))
  (tAsg (tLc2 (iList K (tVar 1)) (gName 6) tYes (iList K (tVar 3)) (gName 4) (tTest (tOp (rIn K true) (tVar 4) (tVar 6))) (tOp (rCatA K) (tVar 6) (tTup (tCons (tVar 4) tNil))) [6, 4] [4]) (gName 1))))
  (tRet (tVar 1))))
def t_tie_between (K : PySem.W.Frag) : TS :=
  (tRet (tTup (tCons (tCB rMin2 (tCons (tVar 0) (tCons (tVar 1) tNil))) (tCons (tCB rMax2 (tCons (tVar 0) (tCons (tVar 1) tNil))) tNil))))
def t_is_whole (K : PySem.W.Frag) : TS :=
  (tRet (tAndV (tCB (rIsi K) (tCons (tVar 0) (tCons (tC (.ty "int")) tNil))) (tNotV (tCB (rIsi K) (tCons (tVar 0) (tCons (tC (.ty "bool")) tNil))))))
def t_are_points (K : PySem.W.Frag) (S_is_whole : Sp) : TS :=
  (tSeq (tIfS (tOr (tNot (tB (tCB (rIsi K) (tCons (tVar 1) (tCons (tC (.ty "tuple")) tNil))))) (tNot (tB (tCB (rAll K) (tCons (tLc (iTup K (tVar 1)) (gName 2) tYes (tAndV (tCall S_is_whole [] E0 (tCons (tVar 2) tNil)) (tChain rLeI rLtI (tC (.int 0)) (tVar 2) (tVar 0))) [2]) tNil))))) (tRet (tC (.bl false))) tNext)
  (tRet (tOp rEq (tLenSetT K (tVar 1)) (tCB (rLenS K) (tCons (tVar 1) tNil)))))
def t_is_group (K : PySem.W.Frag) (S_tie_between : Sp) : TS :=
  (tRet (tCB (rAll K) (tCons (tLc (iTup K (tOp (rIxT K) (tVar 1) (tC (.int 1)))) (gTup K 2 (gCons (gName 4) (gCons (gName 5) gNil))) tYes (tOp rEq (tDGet1 (tVar 0) (tCall S_tie_between [] E0 (tCons (tOp (rIxT K) (tVar 3) (tVar 4)) (tCons (tOp (rIxT K) (tVar 3) (tVar 5)) tNil)))) (tVar 2)) [4, 5]) tNil)))
def t___init__ (K : PySem.W.Frag) (C : Addr) (S_exchanges_of : Sp) : TS :=
  (tSeq (sFld K (tVar 0) (tVar 1) "webs_judged")
  (tSeq (sFld K (tVar 0) (tVar 2) "points_judged")
  (tSeq (sFld K (tVar 0) (tCall S_exchanges_of [] E0 (tCons (tVar 1) tNil)) "swaps_let")
  (tSeq (sFld K (tVar 0) tDNewT "case_there")
  (tSeq (sFld K (tVar 0) (tLst tNil) "came_by")
  (sFld K (tVar 0) (tLst tNil) "over_flags"))))))
def t_case_holds (K : PySem.W.Frag) (C : Addr) (S_row_holds : Sp) : TS :=
  (tSeq (tAsg (tCB (rLenS K) (tCons (tFld K (tVar 0) "came_by") tNil)) (gName 4))
  (tSeq (tDrop (tBM K "list" rAppend (tFld K (tVar 0) "came_by") (tCons (tTup (tCons (tVar 2) (tCons (tVar 3) (tCons (tDGet1N (tFld K (tVar 0) "case_there") (tVar 3)) tNil)))) tNil)))
  (tSeq (tDrop (tBM K "list" rAppend (tFld K (tVar 0) "over_flags") (tCons (tC (.bl false)) tNil)))
  (tSeq (tIfS (tOr (tNot (tB (tCB (rIsi K) (tCons (tVar 1) (tCons (tC (.ty "tuple")) tNil))))) (tOr (tTest (tOp (rEqD K) (tVar 1) (tTup tNil))) (tNot (tB (tCB (rIsi K) (tCons (tOp (rIxT K) (tVar 1) (tC (.int 0))) (tCons (tC (.ty "str")) tNil))))))) (tRet (tC (.bl false))) tNext)
  (tSeq (tAsg (tMeth C "row_holds" S_row_holds [] E0 (tVar 0) (tCons (tVar 1) (tCons (tVar 4) tNil))) (gName 5))
  (tSeq (tAsg (tC (.bl true)) (gSub (tFld K (tVar 0) "over_flags") (tVar 4) rSetL))
  (tRet (tVar 5))))))))
def t_row_holds (K : PySem.W.Frag) (C : Addr) (S_like_holds : Sp) (S_split_holds : Sp) (S_group_holds : Sp) : TS :=
  (tSeq (tAsg (tVar 1) (gStar K 3 4))
  (tSeq (tIfS (tAnd (tTest (tOp rEq (tVar 3) (tC (.str "group")))) (tTest (tOp rEq (tCB (rLenS K) (tCons (tVar 4) tNil)) (tC (.int 2))))) (tRet (tMeth C "group_holds" S_group_holds [] E0 (tVar 0) (tCons (tOp (rIxL K) (tVar 4) (tC (.int 0))) (tCons (tOp (rIxL K) (tVar 4) (tC (.int 1))) tNil)))) tNext)
  (tSeq (tIfS (tAnd (tTest (tOp rEq (tVar 3) (tC (.str "split")))) (tTest (tOp rEq (tCB (rLenS K) (tCons (tVar 4) tNil)) (tC (.int 2))))) (tRet (tMeth C "split_holds" S_split_holds [] E0 (tVar 0) (tCons (tOp (rIxL K) (tVar 4) (tC (.int 0))) (tCons (tOp (rIxL K) (tVar 4) (tC (.int 1))) (tCons (tVar 2) tNil))))) tNext)
  (tRet (tAndV (tOp rEq (tVar 3) (tC (.str "like"))) (tAndV (tOp rEq (tCB (rLenS K) (tCons (tVar 4) tNil)) (tC (.int 3))) (tMeth C "like_holds" S_like_holds [] E0 (tVar 0) (tCons (tOp (rIxL K) (tVar 4) (tC (.int 0))) (tCons (tOp (rIxL K) (tVar 4) (tC (.int 1))) (tCons (tOp (rIxL K) (tVar 4) (tC (.int 2))) tNil))))))))))
def t_group_holds (K : PySem.W.Frag) (C : Addr) (S_is_group : Sp) (S_are_points : Sp) (S_is_whole : Sp) : TS :=
  (tSeq (tIfS (tOr (tNot (tB (tCall S_is_whole [] E0 (tCons (tVar 1) tNil)))) (tNot (tTest (tChain rLeI rLtI (tC (.int 0)) (tVar 1) (tCB (rLenS K) (tCons (tFld K (tVar 0) "webs_judged") tNil)))))) (tRet (tC (.bl false))) tNext)
  (tSeq (tAsg (tOp (rIxT K) (tFld K (tVar 0) "webs_judged") (tVar 1)) (gName 3))
  (tSeq (tIfS (tOr (tNot (tB (tCall S_are_points [] E0 (tCons (tFld K (tVar 0) "points_judged") (tCons (tVar 2) tNil))))) (tTest (tOp rNe (tCB (rLenS K) (tCons (tVar 2) tNil)) (tOp (rIxT K) (tVar 3) (tC (.int 0)))))) (tRet (tC (.bl false))) tNext)
  (tRet (tCall S_is_group [] E0 (tCons (tFld K (tVar 0) "case_there") (tCons (tVar 3) (tCons (tVar 1) (tCons (tVar 2) tNil)))))))))
def t_split_holds (K : PySem.W.Frag) (C : Addr) (S_case_holds : Sp) (S_are_points : Sp) : TS :=
  (tSeq (tIfS (tOr (tNot (tB (tCall S_are_points [] E0 (tCons (tFld K (tVar 0) "points_judged") (tCons (tVar 1) tNil))))) (tOr (tTest (tOp rNe (tCB (rLenS K) (tCons (tVar 1) tNil)) (tC (.int 2)))) (tOr (tTest (tOp rGtI (tOp (rIxT K) (tVar 1) (tC (.int 0))) (tOp (rIxT K) (tVar 1) (tC (.int 1))))) (tB (tDIn (tVar 1) (tFld K (tVar 0) "case_there")))))) (tRet (tC (.bl false))) tNext)
  (tSeq (tIfS (tOr (tNot (tB (tCB (rIsi K) (tCons (tVar 2) (tCons (tC (.ty "tuple")) tNil))))) (tTest (tOp rNe (tCB (rLenS K) (tCons (tVar 2) tNil)) (tCB (rLenS K) (tCons (tFld K (tVar 0) "webs_judged") tNil))))) (tRet (tC (.bl false))) tNext)
  (tSeq (tFor (iEnumT K (tCons (tVar 2) tNil)) (gTup K 2 (gCons (gName 4) (gCons (gName 5) gNil))) (tSeq (sDPut (tFld K (tVar 0) "case_there") (tVar 1) (tVar 4))
  (tIfS (tNot (tB (tMeth C "case_holds" S_case_holds [] E0 (tVar 0) (tCons (tVar 5) (tCons (tVar 3) (tCons (tVar 1) tNil)))))) (tRet (tC (.bl false))) tNext)))
  (tSeq (tDrop (tDPopT (tFld K (tVar 0) "case_there") (tVar 1)))
  (tRet (tC (.bl true)))))))
def t_like_holds (K : PySem.W.Frag) (C : Addr) (S_tie_between : Sp) (S_settled_of : Sp) (S_is_whole : Sp) (S_are_points : Sp) : TS :=
  (tSeq (tIfS (tOr (tNot (tB (tCall S_is_whole [] E0 (tCons (tVar 1) tNil)))) (tOr (tNot (tTest (tChain rLeI rLtI (tC (.int 0)) (tVar 1) (tCB (rLenS K) (tCons (tFld K (tVar 0) "over_flags") tNil))))) (tNot (tB (tOp (rIxL K) (tFld K (tVar 0) "over_flags") (tVar 1)))))) (tRet (tC (.bl false))) tNext)
  (tSeq (tIfS (tOr (tNot (tB (tCall S_are_points [] E0 (tCons (tFld K (tVar 0) "points_judged") (tCons (tVar 2) tNil))))) (tTest (tOp rNe (tCB (rLenS K) (tCons (tVar 2) tNil)) (tFld K (tVar 0) "points_judged")))) (tRet (tC (.bl false))) tNext)
  (tSeq (tIfS (tOr (tNot (tB (tCB (rIsi K) (tCons (tVar 3) (tCons (tC (.ty "tuple")) tNil))))) (tNot (tB (tCB (rAll K) (tCons (tLc (iTup K (tVar 3)) (gName 6) tYes (tCall S_is_whole [] E0 (tCons (tVar 6) tNil)) [6]) tNil))))) (tRet (tC (.bl false))) tNext)
  (tSeq (tIfS (tTest (tOp (rNotInD K) (tVar 3) (tFld K (tVar 0) "swaps_let"))) (tRet (tC (.bl false))) tNext)
  (tSeq (tAsg (tFld K (tVar 0) "case_there") (gName 4))
  (tSeq (tAsg (tMeth C "settled_of" S_settled_of [] E0 (tVar 0) (tCons (tVar 1) tNil)) (gName 5))
  (tRet (tCB (rAll K) (tCons (tLc (iList K (tVar 5)) (gTup K 2 (gCons (gTup K 2 (gCons (gName 8) (gCons (gName 9) gNil))) (gCons (gName 7) gNil))) tYes (tOp rEq (tDGet1 (tVar 4) (tCall S_tie_between [] E0 (tCons (tOp (rIxT K) (tVar 2) (tVar 8)) (tCons (tOp (rIxT K) (tVar 2) (tVar 9)) tNil)))) (tOp (rIxT K) (tVar 3) (tVar 7))) [7, 8, 9]) tNil)))))))))
def t_settled_of (K : PySem.W.Frag) (C : Addr) : TS :=
  (tSeq (tAsg (tLst tNil) (gName 2))
  (tSeq (tWhile (tB (tNotN (tVar 1))) (tSeq (tAsg (tOp (rIxL K) (tFld K (tVar 0) "came_by") (tVar 1)) (gTup K 3 (gCons (gName 3) (gCons (gName 4) (gCons (gName 5) gNil)))))
  (tSeq (tIfS (tB (tNotN (tVar 4))) (tDrop (tBM K "list" rAppend (tVar 2) (tCons (tTup (tCons (tVar 4) (tCons (tVar 5) tNil))) tNil))) tNext)
  (tAsg (tVar 3) (gName 1)))))
  (tRet (tVar 2))))
def t_tree_holds (K : PySem.W.Frag) (C : Addr) (S_case_holds : Sp) (S___init__ : Sp) : TS :=
  (tRet (tMeth C "case_holds" S_case_holds [] E0 (tMake C S___init__ [] E0 (tCons (tVar 0) (tCons (tVar 1) tNil))) (tCons (tVar 2) (tCons (tC .non) (tCons (tC .non) tNil)))))
def t__law_mix (K : PySem.W.Frag) : TS :=
  (tSeq (tAsg (tOp (rIxL K) (tVar 0) (tC (.int 1))) (gName 1))
  (tSeq (tAsg (tOp rModI (tOp rAddI (tOp rAddI (tOp rMulW (tVar 1) (tVar 1)) (tOp rMulW (tC (.int 48271)) (tVar 1))) (tOp (rIxL K) (tVar 0) (tC (.int 2)))) (tOp rAddI (tOp rPowI (tC (.int 10)) (tC (.int 37))) (tC (.int 43)))) (gSub (tVar 0) (tC (.int 1)) rSetL))
  (tAsg (tOp rAddI (tOp (rIxL K) (tVar 0) (tC (.int 2))) (tC (.int 2))) (gSub (tVar 0) (tC (.int 2)) rSetL))))
def t__law_bag (K : PySem.W.Frag) (S__law_mix : Sp) : TS :=
  (tSeq (tAsg (tLst (tCons (tCB rMax2 (tCons (tC (.int 0)) (tCons (tOp rSubI (tVar 0) (tOp rPowI (tC (.int 10)) (tC (.int 18)))) tNil))) (tCons (tOp rAddI (tOp rAddI (tOp rMulW (tOp rModI (tVar 0) (tOp rPowI (tC (.int 10)) (tC (.int 24)))) (tC (.int 69621))) (tOp rPowI (tC (.int 10)) (tC (.int 30)))) (tC (.int 19))) (tCons (tC (.int 3)) tNil)))) (gName 1))
  (tSeq (tDrop (tCall S__law_mix [] E0 (tCons (tVar 1) tNil)))
  (tSeq (tDrop (tCall S__law_mix [] E0 (tCons (tVar 1) tNil)))
  (tRet (tVar 1)))))
def t__law_draw (K : PySem.W.Frag) (S__law_mix : Sp) : TS :=
  (tSeq (tIfS (tTest (tOp rGtI (tOp (rIxL K) (tVar 0) (tC (.int 0))) (tC (.int 0)))) (tSeq (tAsg (tOp rModI (tOp (rIxL K) (tVar 0) (tC (.int 0))) (tVar 1)) (gName 2))
  (tSeq (tAsg (tOp rDivN (tOp (rIxL K) (tVar 0) (tC (.int 0))) (tVar 1)) (gSub (tVar 0) (tC (.int 0)) rSetL))
  (tRet (tVar 2)))) tNext)
  (tSeq (tDrop (tCall S__law_mix [] E0 (tCons (tVar 0) tNil)))
  (tRet (tOp rModI (tOp rDivN (tOp (rIxL K) (tVar 0) (tC (.int 1))) (tOp rPowI (tC (.int 10)) (tC (.int 9)))) (tVar 1)))))
def t__law_turned (K : PySem.W.Frag) (S__law_draw : Sp) : TS :=
  (tSeq (tAsg (tLstRg (tRg1 (tVar 1))) (gName 2))
  (tRet (tLc (iRng1 (tCons (tVar 1) tNil)) (gName 3) tYes (tBM K "list" rPopAt (tVar 2) (tCons (tCall S__law_draw [] E0 (tCons (tVar 0) (tCons (tCB (rLenS K) (tCons (tVar 2) tNil)) tNil))) tNil)) [3])))
def t__law_ties (K : PySem.W.Frag) : TS :=
  (tSeq (tAsg (tLst tNil) (gName 1))
  (tSeq (tFor (iRng1 (tCons (tVar 0) tNil)) (gName 2) (tAsg (tOp rCat (tVar 1) (tLc (iRng2 (tCons (tOp rAddI (tVar 2) (tC (.int 1))) (tCons (tVar 0) tNil))) (gName 3) tYes (tTup (tCons (tVar 2) (tCons (tVar 3) tNil))) [3])) (gName 1)))
  (tRet (tVar 1))))
def t__law_moved_web (K : PySem.W.Frag) : TS :=
  (tRet (tTup (tCons (tOp (rIxT K) (tVar 0) (tC (.int 0))) (tCons (tThen (tCB (rSortU K 2 64) (tCons (tLc (iTup K (tOp (rIxT K) (tVar 0) (tC (.int 1)))) (gTup K 2 (gCons (gName 2) (gCons (gName 3) gNil))) tYes (tThen (tCB (rSorted K) (tCons (tLst (tCons (tOp (rIx K) (tVar 1) (tVar 2)) (tCons (tOp (rIx K) (tVar 1) (tVar 3)) tNil))) tNil)) (kTup K)) [2, 3]) tNil)) (kTup K)) tNil))))
def t__law_web (K : PySem.W.Frag) (P : Program) (w : World) (S__law_moved_web : Sp) (S__law_turned : Sp) (S__law_draw : Sp) (S__law_ties : Sp) : TS :=
  (tSeq (tAsg (tOp rAddI (tC (.int 2)) (tCall S__law_draw [] E0 (tCons (tVar 0) (tCons (tOp rSubI (tVar 1) (tC (.int 1))) tNil)))) (gName 2))
  (tSeq (tAsg (tLc (iRng2 (tCons (tC (.int 1)) (tCons (tVar 2) tNil))) (gName 6) tYes (tTup (tCons (tCall S__law_draw [] E0 (tCons (tVar 0) (tCons (tVar 6) tNil))) (tCons (tVar 6) tNil))) [6]) (gName 3))
  (tSeq (tFor (iRng1 (tCons (tCall S__law_draw [] E0 (tCons (tVar 0) (tCons (tC (.int 4)) tNil))) tNil)) (gName 4) (tDrop (tBM K "list" rAppend (tVar 3) (tCons (tTup (tCons (tCall S__law_draw [] E0 (tCons (tVar 0) (tCons (tVar 2) tNil))) (tCons (tCall S__law_draw [] E0 (tCons (tVar 0) (tCons (tVar 2) tNil))) tNil))) tNil))))
  (tSeq (tIfS (tTest (tOp rEq (tCall S__law_draw [] E0 (tCons (tVar 0) (tCons (tC (.int 4)) tNil))) (tC (.int 0)))) (tAsg (tCall S__law_ties [] E0 (tCons (tVar 2) tNil)) (gName 3)) tNext)
  (tSeq (tAsg (tCB (rSortedT K P w) (tCons (tCB (rSetOfT K P w) (tCons (tLc (iList K (tVar 3)) (gTup K 2 (gCons (gName 7) (gCons (gName 8) gNil))) (tTest (tOp rNe (tVar 7) (tVar 8))) (tTup (tCons (tCB rMin2 (tCons (tVar 7) (tCons (tVar 8) tNil))) (tCons (tCB rMax2 (tCons (tVar 7) (tCons (tVar 8) tNil))) tNil))) [7, 8]) tNil)) tNil)) (gName 5))
  (tRet (tCall S__law_moved_web [] E0 (tCons (tTup (tCons (tVar 2) (tCons (tThen (tVar 5) (kTup K)) tNil))) (tCons (tCall S__law_turned [] E0 (tCons (tVar 0) (tCons (tVar 2) tNil))) tNil)))))))))
def t__law_demand (K : PySem.W.Frag) (S__law_draw : Sp) (S__law_moved_web : Sp) (S__law_turned : Sp) (S__law_web : Sp) : TS :=
  (tSeq (tAsg (tLst tNil) (gName 3))
  (tSeq (tFor (iRng1 (tCons (tVar 1) tNil)) (gName 4) (tSeq (tAsg (tCall S__law_web [] E0 (tCons (tVar 0) (tCons (tVar 2) tNil))) (gName 5))
  (tSeq (tIfS (tAnd (tTest (tOp (rNeD K) (tVar 3) (tLst tNil))) (tTest (tOp rEq (tCall S__law_draw [] E0 (tCons (tVar 0) (tCons (tC (.int 3)) tNil))) (tC (.int 0))))) (tSeq (tAsg (tOp (rIxL K) (tVar 3) (tCall S__law_draw [] E0 (tCons (tVar 0) (tCons (tCB (rLenS K) (tCons (tVar 3) tNil)) tNil)))) (gName 6))
  (tAsg (tCall S__law_moved_web [] E0 (tCons (tVar 6) (tCons (tCall S__law_turned [] E0 (tCons (tVar 0) (tCons (tOp (rIxT K) (tVar 6) (tC (.int 0))) tNil))) tNil))) (gName 5))) tNext)
  (tDrop (tBM K "list" rAppend (tVar 3) (tCons (tVar 5) tNil))))))
  (tRet (tThen (tVar 3) (kTup K)))))
def t__law_hue (K : PySem.W.Frag) : TS :=
  (tRet (tDGet2 (tVar 0) (tTup (tCons (tCB rMin2 (tCons (tVar 1) (tCons (tVar 2) tNil))) (tCons (tCB rMax2 (tCons (tVar 1) (tCons (tVar 2) tNil))) tNil))) (tC (.int 9))))
def t__law_group (K : PySem.W.Frag) (S__law_hue : Sp) : TS :=
  (tSeq (tAsg (tLst (tCons (tTup tNil) tNil)) (gName 4))
  (tSeq (tFor (iRng1 (tCons (tOp (rIxT K) (tVar 1) (tC (.int 0))) tNil)) (gName 5) (tSeq (tAsg (tLc (iTup K (tOp (rIxT K) (tVar 1) (tC (.int 1)))) (gTup K 2 (gCons (gName 11) (gCons (gName 12) gNil))) (tTest (tOp rEq (tVar 12) (tVar 5))) (tVar 11) [11, 12]) (gName 6))
  (tSeq (tAsg (tLst tNil) (gName 7))
  (tSeq (tFor (iList K (tVar 4)) (gName 8) (tFor (iList K (tVar 3)) (gName 9) (tSeq (tAsg (tLc (iList K (tVar 6)) (gName 11) (tTest (tOp rNe (tCall S__law_hue [] E0 (tCons (tVar 0) (tCons (tOp (rIxT K) (tVar 8) (tVar 11)) (tCons (tVar 9) tNil)))) (tVar 2))) (tVar 11) [11]) (gName 10))
  (tIfS (tAnd (tTest (tOp (rEqD K) (tVar 10) (tLst tNil))) (tTest (tOp (rIn K true) (tVar 9) (tVar 8)))) (tDrop (tBM K "list" rAppend (tVar 7) (tCons (tOp (rCatA K) (tVar 8) (tTup (tCons (tVar 9) tNil))) tNil))) tNext))))
  (tAsg (tVar 7) (gName 4))))))
  (tRet (tIf (tTest (tOp (rNeD K) (tVar 4) (tLst tNil))) (tOp (rIxL K) (tVar 4) (tC (.int 0))) (tC .non)))))
def t__law_naive (K : PySem.W.Frag) (S__law_group : Sp) (S__law_ties : Sp) : TS :=
  (tSeq (tAsg (tCall S__law_ties [] E0 (tCons (tVar 1) tNil)) (gName 3))
  (tSeq (tAsg (tLst tNil) (gName 4))
  (tSeq (tFor (iRng2 (tCons (tC (.int 1)) (tCons (tOp rAddI (tVar 2) (tC (.int 1))) tNil))) (gName 5) (tSeq (tAsg (tDictZip K (tVar 3) (tVar 4)) (gName 6))
  (tSeq (tAsg (tC .non) (gName 7))
  (tSeq (tIfS (tTest (tOp (rNeD K) (tVar 4) (tLst tNil))) (tAsg (tCall S__law_group [] E0 (tCons (tVar 6) (tCons (tOp (rIxT K) (tVar 0) (tOp (rIxL K) (tVar 4) (tUn uNegI (tC (.int 1))))) (tCons (tOp (rIxL K) (tVar 4) (tUn uNegI (tC (.int 1)))) (tCons (tLstRg (tRg1 (tVar 1))) tNil))))) (gName 7)) tNext)
  (tSeq (tIfS (tAnd (tB (tIsN (tVar 7))) (tTest (tOp rEq (tCB (rLenS K) (tCons (tVar 4) tNil)) (tCB (rLenS K) (tCons (tVar 3) tNil))))) (tRet (tTup (tCons (tVar 5) (tCons (tThen (tVar 4) (kTup K)) tNil)))) tNext)
  (tIfS (tB (tIsN (tVar 7))) (tDrop (tBM K "list" rAppend (tVar 4) (tCons (tC (.int 0)) tNil))) (tSeq (tWhile (tAnd (tTest (tOp (rNeD K) (tVar 4) (tLst tNil))) (tTest (tOp rEq (tOp (rIxL K) (tVar 4) (tUn uNegI (tC (.int 1)))) (tOp rSubI (tCB (rLenS K) (tCons (tVar 0) tNil)) (tC (.int 1)))))) (tDrop (tBM0 K "list" rPop (tVar 4))))
  (tSeq (tIfS (tTest (tOp (rEqD K) (tVar 4) (tLst tNil))) (tRet (tTup (tCons (tVar 5) (tCons (tC .non) tNil)))) tNext)
  (tDrop (tBM K "list" rAppend (tVar 4) (tCons (tOp rAddI (tBM0 K "list" rPop (tVar 4)) (tC (.int 1))) tNil)))))))))))
  (tRet (tC .non)))))
def t__law_none (K : PySem.W.Frag) (S__law_naive : Sp) : TS :=
  (tSeq (tFor (iRng1 (tCons (tOp rAddI (tCB (rLenS K) (tCons (tVar 0) tNil)) (tC (.int 1))) tNil)) (gName 2) (tSeq (tFor (iRng2 (tCons (tC (.int 2)) (tCons (tC (.int 6)) tNil))) (gName 3) (tSeq (tAsg (tCall S__law_naive [] E0 (tCons (tVar 0) (tCons (tVar 3) (tCons (tVar 1) tNil)))) (gName 4))
  (tIfS (tAnd (tB (tNotN (tVar 4))) (tB (tIsN (tOp (rIxT K) (tVar 4) (tC (.int 1)))))) (tRet (tTup (tCons (tVar 0) (tCons (tVar 3) tNil)))) tNext)))
  (tAsg (tOp (rCatA K) (tOp (rCatA K) (tSl (rSlA K) (tVar 0) tNoPart (tPart (tVar 2))) (tTup (tCons (tTup (tCons (tC (.int 2)) (tCons (tTup (tCons (tTup (tCons (tC (.int 0)) (tCons (tC (.int 1)) tNil))) tNil)) tNil))) tNil))) (tSl (rSlA K) (tVar 0) (tPart (tOp rAddI (tVar 2) (tC (.int 1)))) tNoPart)) (gName 0))))
  (tRet (tTup (tCons (tVar 0) (tCons (tC (.int 2)) tNil)))))
def t__law_orders (K : PySem.W.Frag) : TS :=
  (tSeq (tAsg (tLst (tCons (tTup tNil) tNil)) (gName 1))
  (tSeq (tFor (iRng1 (tCons (tVar 0) tNil)) (gName 2) (tSeq (tAsg (tLst tNil) (gName 3))
  (tSeq (tFor (iList K (tVar 1)) (gName 4) (tAsg (tOp rCat (tVar 3) (tLc (iRng1 (tCons (tVar 0) tNil)) (gName 5) (tTest (tOp (rIn K true) (tVar 5) (tVar 4))) (tOp (rCatA K) (tVar 4) (tTup (tCons (tVar 5) tNil))) [5])) (gName 3)))
  (tAsg (tVar 3) (gName 1)))))
  (tRet (tVar 1))))
def t__law_alike (K : PySem.W.Frag) (S__law_orders : Sp) (S__law_moved_web : Sp) : TS :=
  (tSeq (tIfS (tOr (tTest (tOp rNe (tOp (rIxT K) (tVar 0) (tC (.int 0))) (tOp (rIxT K) (tVar 1) (tC (.int 0))))) (tTest (tOp rNe (tCB (rLenS K) (tCons (tOp (rIxT K) (tVar 0) (tC (.int 1))) tNil)) (tCB (rLenS K) (tCons (tOp (rIxT K) (tVar 1) (tC (.int 1))) tNil))))) (tRet (tC (.bl false))) tNext)
  (tRet (tOp (rNeD K) (tLc (iList K (tCall S__law_orders [] E0 (tCons (tOp (rIxT K) (tVar 0) (tC (.int 0))) tNil))) (gName 2) (tTest (tOp (rEqD K) (tCall S__law_moved_web [] E0 (tCons (tVar 0) (tCons (tVar 2) tNil))) (tVar 1))) (tVar 2) [2]) (tLst tNil))))
def t__law_swaps (K : PySem.W.Frag) (S__law_orders : Sp) (S__law_alike : Sp) : TS :=
  (tSeq (tAsg (tLst tNil) (gName 1))
  (tSeq (tFor (iTup K (tVar 0)) (gName 2) (tDrop (tBM K "list" rAppend (tVar 1) (tCons (tOp (rIxL K) (tLc (iRng1 (tCons (tCB (rLenS K) (tCons (tVar 0) tNil)) tNil)) (gName 3) (tB (tCall S__law_alike [] E0 (tCons (tOp (rIxT K) (tVar 0) (tVar 3)) (tCons (tVar 2) tNil)))) (tVar 3) [3]) (tC (.int 0))) tNil))))
  (tRet (tLc (iList K (tCall S__law_orders [] E0 (tCons (tCB (rLenS K) (tCons (tVar 0) tNil)) tNil))) (gName 4) (tTest (tOp (rEqD K) (tLc (iTup K (tVar 4)) (gName 3) tYes (tOp (rIxL K) (tVar 1) (tVar 3)) [3]) (tVar 1))) (tVar 4) [4]))))
def t__law_like (K : PySem.W.Frag) (S__law_hue : Sp) : TS :=
  (tSeq (tAsg (tSl (rSlL K) (tVar 0) tNoPart (tPart (tC (.int 6)))) (gUnl K 6 (gCons (gName 2) (gCons (gName 3) (gCons (gName 4) (gCons (gName 5) (gCons (gName 6) (gCons (gName 7) gNil))))))))
  (tSeq (tFor (iList K (tVar 7)) (gTup K 2 (gCons (gName 8) (gCons (gName 9) gNil))) (tFor (iList K (tOp rRep (tVar 6) (tCB rInt1 (tCons (tOp rEq (tCB rLenT (tCons (tVar 9) tNil)) (tCB rLenT (tCons (tVar 1) tNil))) tNil)))) (gName 10) (tSeq (tAsg (tLstRg (tRg1 (tVar 4))) (gName 11))
  (tSeq (tFor (iRng1 (tCons (tCB (rLenS K) (tCons (tVar 3) tNil)) tNil)) (gName 12) (tAsg (tOp (rIxL K) (tVar 3) (tOp (rIxT K) (tVar 10) (tVar 12))) (gSub (tVar 11) (tOp (rIxL K) (tVar 3) (tVar 12)) rSetL)))
  (tFor (iList K (tVar 5)) (gName 13) (tIfS (tB (tCB (rAll K) (tCons (tLc (iList K (tCB rListDT (tCons (tVar 9) tNil))) (gTup K 2 (gCons (gName 14) (gCons (gName 15) gNil))) tYes (tOp rEq (tCall S__law_hue [] E0 (tCons (tVar 1) (tCons (tOp (rIxL K) (tVar 11) (tVar 14)) (tCons (tOp (rIxL K) (tVar 11) (tVar 15)) tNil)))) (tOp (rIxT K) (tVar 13) (tDGet (tVar 9) (tTup (tCons (tVar 14) (tCons (tVar 15) tNil)))))) [14, 15]) tNil))) (tRet (tTup (tCons (tC (.str "like")) (tCons (tVar 8) (tCons (tThen (tVar 11) (kTup K)) (tCons (tVar 13) tNil)))))) tNext))))))
  (tRet (tC .non))))
def t__law_grown (K : PySem.W.Frag) (S__law_grown : Sp) (S__law_hue : Sp) (S__law_ties : Sp) (S__law_draw : Sp) (S__law_like : Sp) (S__law_group : Sp) : TS :=
  (tSeq (tAsg (tSl (rSlL K) (tVar 1) tNoPart (tPart (tC (.int 6)))) (gUnl K 6 (gCons (gName 4) (gCons (gName 5) (gCons (gName 6) (gCons (gName 7) (gCons (gName 8) (gCons (gName 9) gNil))))))))
  (tSeq (tAsg (tOp (rIxL K) (tVar 1) (tC (.int 6))) (gName 10))
  (tSeq (tAsg (tOp rAddI (tVar 10) (tC (.int 1))) (gSub (tVar 1) (tC (.int 6)) rSetL))
  (tSeq (tAsg (tC .non) (gName 11))
  (tSeq (tAsg (tC .non) (gName 12))
  (tSeq (tIfS (tTest (tOp rNeDT (tVar 2) tDNewT)) (tSeq (tAsg (tCall S__law_group [] E0 (tCons (tVar 2) (tCons (tOp (rIxT K) (tVar 4) (tVar 3)) (tCons (tVar 3) (tCons (tVar 5) tNil))))) (gName 12))
  (tAsg (tIf (tAnd (tTest (tOp rLtI (tCB rLenT (tCons (tVar 2) tNil)) (tC (.int 3)))) (tAnd (tB (tIsN (tVar 12))) (tTest (tOp rGtI (tCall S__law_draw [] E0 (tCons (tVar 0) (tCons (tC (.int 3)) tNil))) (tC (.int 0)))))) (tCall S__law_like [] E0 (tCons (tVar 1) (tCons (tVar 2) tNil))) (tC .non)) (gName 11))) tNext)
  (tSeq (tIfS (tB (tNotN (tVar 12))) (tAsg (tTup (tCons (tC (.str "group")) (tCons (tVar 3) (tCons (tVar 12) tNil)))) (gName 11)) tNext)
  (tSeq (tIfS (tB (tIsN (tVar 11))) (tSeq (tAsg (tLc (iList K (tCall S__law_ties [] E0 (tCons (tCB (rLenS K) (tCons (tVar 5) tNil)) tNil))) (gTup K 2 (gCons (gName 18) (gCons (gName 19) gNil))) tYes (tTup (tCons (tOp (rIxL K) (tVar 5) (tVar 18)) (tCons (tOp (rIxL K) (tVar 5) (tVar 19)) tNil))) [18, 19]) (gName 13))
  (tSeq (tAsg (tLc (iList K (tVar 13)) (gTup K 2 (gCons (gName 18) (gCons (gName 19) gNil))) (tTest (tOp rEq (tCall S__law_hue [] E0 (tCons (tVar 2) (tCons (tVar 18) (tCons (tVar 19) tNil)))) (tC (.int 9)))) (tTup (tCons (tCB rMin2 (tCons (tVar 18) (tCons (tVar 19) tNil))) (tCons (tCB rMax2 (tCons (tVar 18) (tCons (tVar 19) tNil))) tNil))) [18, 19]) (gName 14))
  (tSeq (tAsg (tLst tNil) (gName 15))
  (tSeq (tFor (iRng1 (tCons (tCB (rLenS K) (tCons (tVar 4) tNil)) tNil)) (gName 16) (tSeq (tAsg (tDictCopy (tVar 2)) (gName 17))
  (tSeq (sDPut (tVar 17) (tOp (rIxL K) (tVar 14) (tC (.int 0))) (tVar 16))
  (tDrop (tBM K "list" rAppend (tVar 15) (tCons (tCall S__law_grown [] E0 (tCons (tVar 0) (tCons (tVar 1) (tCons (tVar 17) (tCons (tVar 16) tNil))))) tNil))))))
  (tAsg (tTup (tCons (tC (.str "split")) (tCons (tOp (rIxL K) (tVar 14) (tC (.int 0))) (tCons (tThen (tVar 15) (kTup K)) tNil)))) (gName 11)))))) tNext)
  (tSeq (tIfS (tTest (tChain rLtI rLtI (tC (.int 0)) (tCB rLenT (tCons (tVar 2) tNil)) (tC (.int 3)))) (tDrop (tBM K "list" rAppend (tVar 9) (tCons (tTup (tCons (tVar 10) (tCons (tDictCopy (tVar 2)) tNil))) tNil))) tNext)
  (tRet (tVar 11)))))))))))
def t__law_tree (K : PySem.W.Frag) (S__law_grown : Sp) (S__law_orders : Sp) (S__law_swaps : Sp) (S__law_turned : Sp) : TS :=
  (tSeq (tAsg (tSl (rSlL K) (tCall S__law_turned [] E0 (tCons (tVar 0) (tCons (tVar 3) tNil))) tNoPart (tPart (tVar 2))) (gName 4))
  (tSeq (tAsg (tCall S__law_swaps [] E0 (tCons (tVar 1) tNil)) (gName 5))
  (tSeq (tAsg (tCall S__law_orders [] E0 (tCons (tVar 2) tNil)) (gName 6))
  (tSeq (tIfS (tTest (tOp rGtI (tCB (rLenS K) (tCons (tVar 1) tNil)) (tC (.int 2)))) (tPar 5 6 (tCons (tSl (rSlL K) (tVar 5) tNoPart (tPart (tC (.int 3)))) (tCons (tSl (rSlL K) (tVar 6) tNoPart (tPart (tC (.int 24)))) tNil))) tNext)
  (tRet (tCall S__law_grown [] E0 (tCons (tVar 0) (tCons (tLst (tCons (tVar 1) (tCons (tVar 4) (tCons (tVar 3) (tCons (tVar 5) (tCons (tVar 6) (tCons (tLst tNil) (tCons (tC (.int 0)) tNil)))))))) (tCons tDNewT (tCons (tC (.int 0)) tNil))))))))))
def t__law_spots (K : PySem.W.Frag) (S__law_spots : Sp) : TS :=
  (tSeq (tAsg (tLst (tCons (tVar 0) tNil)) (gName 1))
  (tSeq (tIfS (tTest (tOp rEq (tOp (rIxT K) (tVar 0) (tC (.int 0))) (tC (.str "split")))) (tFor (iTup K (tOp (rIxT K) (tVar 0) (tC (.int 2)))) (gName 2) (tAsg (tOp rCat (tVar 1) (tCall S__law_spots [] E0 (tCons (tVar 2) tNil))) (gName 1))) tNext)
  (tRet (tVar 1))))
def t__law_put (K : PySem.W.Frag) (S__law_put : Sp) (S__law_spots : Sp) : TS :=
  (tSeq (tIfS (tTest (tOp rEq (tVar 1) (tC (.int 0)))) (tRet (tVar 2)) tNext)
  (tSeq (tAsg (tLst tNil) (gName 3))
  (tSeq (tAsg (tOp rSubI (tVar 1) (tC (.int 1))) (gName 1))
  (tSeq (tFor (iTup K (tOp (rIxT K) (tVar 0) (tC (.int 2)))) (gName 4) (tSeq (tAsg (tCB (rLenS K) (tCons (tCall S__law_spots [] E0 (tCons (tVar 4) tNil)) tNil)) (gName 5))
  (tSeq (tDrop (tBM K "list" rAppend (tVar 3) (tCons (tIf (tTest (tChain rLeI rLtI (tC (.int 0)) (tVar 1) (tVar 5))) (tCall S__law_put [] E0 (tCons (tVar 4) (tCons (tVar 1) (tCons (tVar 2) tNil)))) (tVar 4)) tNil)))
  (tAsg (tOp rSubI (tVar 1) (tVar 5)) (gName 1)))))
  (tRet (tTup (tCons (tC (.str "split")) (tCons (tOp (rIxT K) (tVar 0) (tC (.int 1))) (tCons (tThen (tVar 3) (kTup K)) tNil)))))))))
def t__law_named (K : PySem.W.Frag) (S__law_moved_web : Sp) (S__law_turned : Sp) (S__law_draw : Sp) : TS :=
  (tSeq (tAsg (tLst (tCons (tTup (tCons (tC (.int 2)) (tCons (tTup (tCons (tTup (tCons (tC (.int 0)) (tCons (tC (.int 1)) tNil))) tNil)) tNil))) (tCons (tTup (tCons (tC (.int 3)) (tCons (tTup (tCons (tTup (tCons (tC (.int 0)) (tCons (tC (.int 1)) tNil))) (tCons (tTup (tCons (tC (.int 1)) (tCons (tC (.int 2)) tNil))) tNil))) tNil))) (tCons (tTup (tCons (tC (.int 3)) (tCons (tTup (tCons (tTup (tCons (tC (.int 0)) (tCons (tC (.int 1)) tNil))) (tCons (tTup (tCons (tC (.int 0)) (tCons (tC (.int 2)) tNil))) (tCons (tTup (tCons (tC (.int 1)) (tCons (tC (.int 2)) tNil))) tNil)))) tNil))) (tCons (tTup (tCons (tC (.int 4)) (tCons (tTup (tCons (tTup (tCons (tC (.int 0)) (tCons (tC (.int 1)) tNil))) (tCons (tTup (tCons (tC (.int 1)) (tCons (tC (.int 2)) tNil))) (tCons (tTup (tCons (tC (.int 2)) (tCons (tC (.int 3)) tNil))) tNil)))) tNil))) tNil))))) (gName 1))
  (tSeq (tAsg (tOp rCat (tVar 1) (tLst (tCons (tTup (tCons (tC (.int 4)) (tCons (tTup (tCons (tTup (tCons (tC (.int 0)) (tCons (tC (.int 1)) tNil))) (tCons (tTup (tCons (tC (.int 0)) (tCons (tC (.int 3)) tNil))) (tCons (tTup (tCons (tC (.int 1)) (tCons (tC (.int 2)) tNil))) (tCons (tTup (tCons (tC (.int 2)) (tCons (tC (.int 3)) tNil))) tNil))))) tNil))) (tCons (tTup (tCons (tC (.int 4)) (tCons (tTup (tCons (tTup (tCons (tC (.int 0)) (tCons (tC (.int 1)) tNil))) (tCons (tTup (tCons (tC (.int 0)) (tCons (tC (.int 2)) tNil))) (tCons (tTup (tCons (tC (.int 0)) (tCons (tC (.int 3)) tNil))) tNil)))) tNil))) tNil)))) (gName 1))
  (tSeq (tAsg (tLst (tCons (tTup (tCons (tC (.int 1)) (tCons (tC (.int 1)) tNil))) (tCons (tTup (tCons (tC (.int 1)) (tCons (tC (.int 2)) tNil))) (tCons (tTup (tCons (tC (.int 1)) (tCons (tC (.int 3)) tNil))) (tCons (tTup (tCons (tC (.int 1)) (tCons (tC (.int 4)) tNil))) (tCons (tTup (tCons (tC (.int 1)) (tCons (tC (.int 5)) tNil))) (tCons (tTup (tCons (tC (.int 3)) (tCons (tC (.int 3)) tNil))) (tCons (tTup (tCons (tC (.int 3)) (tCons (tC (.int 4)) tNil))) (tCons (tTup (tCons (tC (.int 1)) (tCons (tC (.int 1)) (tCons (tC (.int 1)) tNil)))) (tCons (tTup (tCons (tC (.int 1)) (tCons (tC (.int 1)) (tCons (tC (.int 2)) tNil)))) (tCons (tTup (tCons (tC (.int 1)) (tCons (tC (.int 1)) (tCons (tC (.int 1)) (tCons (tC (.int 1)) tNil))))) (tCons (tTup (tCons (tC (.int 0)) (tCons (tC (.int 2)) (tCons (tC (.int 1)) tNil)))) (tCons (tTup (tCons (tC (.int 4)) tNil)) tNil))))))))))))) (gName 2))
  (tSeq (tAsg (tOp (rIxL K) (tVar 2) (tCall S__law_draw [] E0 (tCons (tVar 0) (tCons (tC (.int 12)) tNil)))) (gName 3))
  (tSeq (tAsg (tLc (iList K (tCall S__law_turned [] E0 (tCons (tVar 0) (tCons (tCB (rLenS K) (tCons (tVar 3) tNil)) tNil)))) (gName 5) tYes (tOp (rIxL K) (tVar 1) (tOp (rIxT K) (tVar 3) (tVar 5))) [5]) (gName 4))
  (tRet (tThen (tLc (iList K (tVar 4)) (gName 6) tYes (tCall S__law_moved_web [] E0 (tCons (tVar 6) (tCons (tCall S__law_turned [] E0 (tCons (tVar 0) (tCons (tOp (rIxT K) (tVar 6) (tC (.int 0))) tNil))) tNil))) [6]) (kTup K))))))))
def t__law_scene (K : PySem.W.Frag) (S__law_draw : Sp) (S__law_none : Sp) (S__law_named : Sp) (S__law_demand : Sp) : TS :=
  (tSeq (tAsg (tOp (rIxL K) (tLst (tCons (tC (.int 1)) (tCons (tC (.int 2)) (tCons (tC (.int 2)) (tCons (tC (.int 2)) (tCons (tC (.int 3)) (tCons (tC (.int 3)) (tCons (tC (.int 4)) tNil)))))))) (tCall S__law_draw [] E0 (tCons (tVar 0) (tCons (tC (.int 7)) tNil)))) (gName 1))
  (tSeq (tAsg (tCall S__law_demand [] E0 (tCons (tVar 0) (tCons (tVar 1) (tCons (tOp (rIxL K) (tLst (tCons (tC (.int 3)) (tCons (tC (.int 4)) (tCons (tC (.int 5)) tNil)))) (tCall S__law_draw [] E0 (tCons (tVar 0) (tCons (tC (.int 3)) tNil)))) tNil)))) (gName 2))
  (tSeq (tIfS (tTest (tOp rEq (tCall S__law_draw [] E0 (tCons (tVar 0) (tCons (tC (.int 2)) tNil))) (tC (.int 0)))) (tAsg (tCall S__law_named [] E0 (tCons (tVar 0) tNil)) (gName 2)) tNext)
  (tSeq (tAsg (tCall S__law_none [] E0 (tCons (tVar 2) (tCons (tC (.int 250)) tNil))) (gTup K 2 (gCons (gName 2) (gCons (gName 3) gNil))))
  (tRet (tTup (tCons (tVar 2) (tCons (tVar 3) (tCons (tOp rAddI (tVar 3) (tCall S__law_draw [] E0 (tCons (tVar 0) (tCons (tOp rSubI (tC (.int 9)) (tVar 3)) tNil)))) tNil)))))))))
def t__law_whole (K : PySem.W.Frag) : TS :=
  (tRet (tAndV (tCB (rIsi K) (tCons (tVar 0) (tCons (tC (.ty "int")) tNil))) (tNotV (tCB (rIsi K) (tCons (tVar 0) (tCons (tC (.ty "bool")) tNil))))))
def t__law_points (K : PySem.W.Frag) (S__law_whole : Sp) : TS :=
  (tSeq (tIfS (tOr (tNot (tB (tCB (rIsi K) (tCons (tVar 1) (tCons (tC (.ty "tuple")) tNil))))) (tNot (tB (tCB (rAll K) (tCons (tLc (iTup K (tVar 1)) (gName 2) tYes (tAndV (tCall S__law_whole [] E0 (tCons (tVar 2) tNil)) (tChain rLeI rLtI (tC (.int 0)) (tVar 2) (tVar 0))) [2]) tNil))))) (tRet (tC (.bl false))) tNext)
  (tRet (tOp rEq (tLenSetT K (tVar 1)) (tCB (rLenS K) (tCons (tVar 1) tNil)))))
def t__law_group_fits (K : PySem.W.Frag) (S__law_hue : Sp) (S__law_points : Sp) (S__law_whole : Sp) : TS :=
  (tSeq (tIfS (tOr (tNot (tB (tCall S__law_whole [] E0 (tCons (tVar 3) tNil)))) (tNot (tTest (tChain rLeI rLtI (tC (.int 0)) (tVar 3) (tCB (rLenS K) (tCons (tVar 0) tNil)))))) (tRet (tC (.bl false))) tNext)
  (tSeq (tIfS (tOr (tNot (tB (tCall S__law_points [] E0 (tCons (tVar 1) (tCons (tVar 4) tNil))))) (tTest (tOp rNe (tCB (rLenS K) (tCons (tVar 4) tNil)) (tOp (rIxT K) (tOp (rIxT K) (tVar 0) (tVar 3)) (tC (.int 0)))))) (tRet (tC (.bl false))) tNext)
  (tRet (tCB (rAll K) (tCons (tLc (iTup K (tOp (rIxT K) (tOp (rIxT K) (tVar 0) (tVar 3)) (tC (.int 1)))) (gTup K 2 (gCons (gName 5) (gCons (gName 6) gNil))) tYes (tOp rEq (tCall S__law_hue [] E0 (tCons (tVar 2) (tCons (tOp (rIxT K) (tVar 4) (tVar 5)) (tCons (tOp (rIxT K) (tVar 4) (tVar 6)) tNil)))) (tVar 3)) [5, 6]) tNil)))))
def t__law_like_fits (K : PySem.W.Frag) (S__law_hue : Sp) (S__law_whole : Sp) (S__law_points : Sp) : TS :=
  (tSeq (tAsg (tVar 4) (gTup K 4 (gCons (gName 5) (gCons (gName 6) (gCons (gName 7) (gCons (gName 8) gNil))))))
  (tSeq (tIfS (tOr (tNot (tB (tCall S__law_whole [] E0 (tCons (tVar 6) tNil)))) (tOr (tNot (tTest (tChain rLeI rLtI (tC (.int 0)) (tVar 6) (tCB (rLenS K) (tCons (tVar 3) tNil))))) (tB (tIsN (tOp (rIxL K) (tVar 3) (tVar 6)))))) (tRet (tC (.bl false))) tNext)
  (tSeq (tIfS (tOr (tNot (tB (tCall S__law_points [] E0 (tCons (tVar 0) (tCons (tVar 7) tNil))))) (tTest (tOp rNe (tCB (rLenS K) (tCons (tVar 7) tNil)) (tVar 0)))) (tRet (tC (.bl false))) tNext)
  (tSeq (tIfS (tOr (tNot (tB (tCB (rIsi K) (tCons (tVar 8) (tCons (tC (.ty "tuple")) tNil))))) (tOr (tNot (tB (tCB (rAll K) (tCons (tLc (iTup K (tVar 8)) (gName 10) tYes (tCall S__law_whole [] E0 (tCons (tVar 10) tNil)) [10]) tNil)))) (tTest (tOp (rNotInD K) (tVar 8) (tVar 1))))) (tRet (tC (.bl false))) tNext)
  (tSeq (tAsg (tOp (rIxL K) (tVar 3) (tVar 6)) (gName 9))
  (tRet (tCB (rAll K) (tCons (tLc (iList K (tCB rListDT (tCons (tVar 9) tNil))) (gTup K 2 (gCons (gName 11) (gCons (gName 12) gNil))) tYes (tOp rEq (tCall S__law_hue [] E0 (tCons (tVar 2) (tCons (tOp (rIxT K) (tVar 7) (tVar 11)) (tCons (tOp (rIxT K) (tVar 7) (tVar 12)) tNil)))) (tOp (rIxT K) (tVar 8) (tDGet (tVar 9) (tTup (tCons (tVar 11) (tCons (tVar 12) tNil)))))) [11, 12]) tNil))))))))
def t__law_judged (K : PySem.W.Frag) (S__law_group_fits : Sp) (S__law_like_fits : Sp) (S__law_judged : Sp) (S__law_points : Sp) : TS :=
  (tSeq (tAsg (tVar 0) (gTup K 3 (gCons (gName 4) (gCons (gName 5) (gCons (gName 6) gNil)))))
  (tSeq (tAsg (tCB (rLenS K) (tCons (tVar 3) tNil)) (gName 7))
  (tSeq (tDrop (tBM K "list" rAppend (tVar 3) (tCons (tC .non) tNil)))
  (tSeq (tAsg (tAndV (tCB (rIsi K) (tCons (tVar 1) (tCons (tC (.ty "tuple")) tNil))) (tAndV (tOp rGtI (tCB (rLenS K) (tCons (tVar 1) tNil)) (tC (.int 0))) (tCB (rIsi K) (tCons (tOp (rIxT K) (tVar 1) (tC (.int 0))) (tCons (tC (.ty "str")) tNil))))) (gName 8))
  (tSeq (tIfS (tAnd (tB (tVar 8)) (tAnd (tTest (tOp rEq (tOp (rIxT K) (tVar 1) (tC (.int 0))) (tC (.str "group")))) (tTest (tOp rEq (tCB (rLenS K) (tCons (tVar 1) tNil)) (tC (.int 3)))))) (tAsg (tCall S__law_group_fits [] E0 (tCons (tVar 4) (tCons (tVar 5) (tCons (tVar 2) (tCons (tOp (rIxT K) (tVar 1) (tC (.int 1))) (tCons (tOp (rIxT K) (tVar 1) (tC (.int 2))) tNil)))))) (gName 8)) (tIfS (tAnd (tB (tVar 8)) (tAnd (tTest (tOp rEq (tOp (rIxT K) (tVar 1) (tC (.int 0))) (tC (.str "like")))) (tTest (tOp rEq (tCB (rLenS K) (tCons (tVar 1) tNil)) (tC (.int 4)))))) (tAsg (tCall S__law_like_fits [] E0 (tCons (tVar 5) (tCons (tVar 6) (tCons (tVar 2) (tCons (tVar 3) (tCons (tVar 1) tNil)))))) (gName 8)) (tIfS (tAnd (tB (tVar 8)) (tAnd (tTest (tOp rEq (tOp (rIxT K) (tVar 1) (tC (.int 0))) (tC (.str "split")))) (tTest (tOp rEq (tCB (rLenS K) (tCons (tVar 1) tNil)) (tC (.int 3)))))) (tSeq (tAsg (tAndV (tCall S__law_points [] E0 (tCons (tVar 5) (tCons (tOp (rIxT K) (tVar 1) (tC (.int 1))) tNil))) (tAndV (tOp rEq (tCB (rLenS K) (tCons (tOp (rIxT K) (tVar 1) (tC (.int 1))) tNil)) (tC (.int 2))) (tAndV (tOp rLtI (tOp (rIxT K) (tOp (rIxT K) (tVar 1) (tC (.int 1))) (tC (.int 0))) (tOp (rIxT K) (tOp (rIxT K) (tVar 1) (tC (.int 1))) (tC (.int 1)))) (tDNotIn (tOp (rIxT K) (tVar 1) (tC (.int 1))) (tVar 2))))) (gName 8))
  (tSeq (tAsg (tAndV (tVar 8) (tAndV (tCB (rIsi K) (tCons (tOp (rIxT K) (tVar 1) (tC (.int 2))) (tCons (tC (.ty "tuple")) tNil))) (tOp rEq (tCB (rLenS K) (tCons (tOp (rIxT K) (tVar 1) (tC (.int 2))) tNil)) (tCB (rLenS K) (tCons (tVar 4) tNil))))) (gName 8))
  (tFor (iRng1 (tCons (tOp rMulW (tCB (rLenS K) (tCons (tVar 4) tNil)) (tCB rInt1 (tCons (tVar 8) tNil))) tNil)) (gName 9) (tSeq (tAsg (tDictCopy (tVar 2)) (gName 10))
  (tSeq (sDPut (tVar 10) (tOp (rIxT K) (tVar 1) (tC (.int 1))) (tVar 9))
  (tAsg (tAndV (tVar 8) (tCall S__law_judged [] E0 (tCons (tVar 0) (tCons (tOp (rIxT K) (tOp (rIxT K) (tVar 1) (tC (.int 2))) (tVar 9)) (tCons (tVar 10) (tCons (tVar 3) tNil)))))) (gName 8))))))) (tAsg (tC (.bl false)) (gName 8)))))
  (tSeq (tAsg (tDictCopy (tVar 2)) (gSub (tVar 3) (tVar 7) rSetL))
  (tRet (tVar 8))))))))
def t__law_is (K : PySem.W.Frag) : TS :=
  (tRet (tAndV (tCB (rIsi K) (tCons (tVar 0) (tCons (tC (.ty "bool")) tNil))) (tOp (rEqD K) (tVar 0) (tVar 1))))
def t__law_leaf (K : PySem.W.Frag) (S__law_turned : Sp) (S__law_draw : Sp) : TS :=
  (tSeq (tAsg (tLc (iList K (tVar 3)) (gName 6) (tTest (tOp rNe (tOp (rIxT K) (tVar 6) (tC (.int 0))) (tC (.str "split")))) (tVar 6) [6]) (gName 4))
  (tSeq (tIfS (tTest (tOp rGtI (tCall S__law_draw [] E0 (tCons (tVar 0) (tCons (tC (.int 3)) tNil))) (tC (.int 0)))) (tRet (tOp (rIxL K) (tVar 4) (tCall S__law_draw [] E0 (tCons (tVar 0) (tCons (tCB (rLenS K) (tCons (tVar 4) tNil)) tNil))))) tNext)
  (tSeq (tIfS (tTest (tOp rEq (tCall S__law_draw [] E0 (tCons (tVar 0) (tCons (tC (.int 2)) tNil))) (tC (.int 0)))) (tSeq (tAsg (tSl (rSlL K) (tCall S__law_turned [] E0 (tCons (tVar 0) (tCons (tVar 1) tNil))) tNoPart (tPart (tOp rAddI (tC (.int 2)) (tCall S__law_draw [] E0 (tCons (tVar 0) (tCons (tC (.int 4)) tNil)))))) (gName 5))
  (tRet (tTup (tCons (tC (.str "group")) (tCons (tCall S__law_draw [] E0 (tCons (tVar 0) (tCons (tVar 2) tNil))) (tCons (tThen (tVar 5) (kTup K)) tNil)))))) tNext)
  (tRet (tTup (tCons (tC (.str "like")) (tCons (tCall S__law_draw [] E0 (tCons (tVar 0) (tCons (tCB (rLenS K) (tCons (tVar 3) tNil)) tNil))) (tCons (tThen (tCall S__law_turned [] E0 (tCons (tVar 0) (tCons (tVar 1) tNil))) (kTup K)) (tCons (tThen (tCall S__law_turned [] E0 (tCons (tVar 0) (tCons (tVar 2) tNil))) (kTup K)) tNil)))))))))
def t__law_other_tree (K : PySem.W.Frag) (S__law_put : Sp) (S__law_leaf : Sp) (S__law_draw : Sp) (S__law_spots : Sp) : TS :=
  (tSeq (tAsg (tCall S__law_spots [] E0 (tCons (tVar 1) tNil)) (gName 4))
  (tSeq (tAsg (tCall S__law_draw [] E0 (tCons (tVar 0) (tCons (tCB (rLenS K) (tCons (tVar 4) tNil)) tNil))) (gName 5))
  (tSeq (tAsg (tOp (rIxL K) (tVar 4) (tCall S__law_draw [] E0 (tCons (tVar 0) (tCons (tCB (rLenS K) (tCons (tVar 4) tNil)) tNil)))) (gName 6))
  (tSeq (tAsg (tCall S__law_draw [] E0 (tCons (tVar 0) (tCons (tC (.int 4)) tNil))) (gName 7))
  (tSeq (tIfS (tTest (tOp rEq (tVar 7) (tC (.int 1)))) (tAsg (tCall S__law_leaf [] E0 (tCons (tVar 0) (tCons (tVar 2) (tCons (tVar 3) (tCons (tVar 4) tNil))))) (gName 6)) tNext)
  (tSeq (tIfS (tTest (tOp rEq (tVar 7) (tC (.int 2)))) (tSeq (tAsg (tTup (tCons (tCall S__law_draw [] E0 (tCons (tVar 0) (tCons (tVar 2) tNil))) (tCons (tCall S__law_draw [] E0 (tCons (tVar 0) (tCons (tVar 2) tNil))) tNil))) (gName 8))
  (tAsg (tTup (tCons (tC (.str "split")) (tCons (tTup (tCons (tCB (rMinT K) (tCons (tVar 8) tNil)) (tCons (tCB (rMaxT K) (tCons (tVar 8) tNil)) tNil))) (tCons (tThen (tLc (iRng1 (tCons (tVar 3) tNil)) (gName 9) tYes (tCall S__law_leaf [] E0 (tCons (tVar 0) (tCons (tVar 2) (tCons (tVar 3) (tCons (tVar 4) tNil))))) [9]) (kTup K)) tNil)))) (gName 6))) tNext)
  (tSeq (tIfS (tTest (tOp rEq (tVar 7) (tC (.int 3)))) (tAsg (tOp (rIxL K) (tVar 4) (tVar 5)) (gName 6)) tNext)
  (tRet (tCall S__law_put [] E0 (tCons (tVar 1) (tCons (tVar 5) (tCons (tVar 6) tNil))))))))))))
def t__law_other_demand (K : PySem.W.Frag) (S__law_ties : Sp) (S__law_moved_web : Sp) (S__law_turned : Sp) (S__law_web : Sp) (S__law_draw : Sp) : TS :=
  (tSeq (tAsg (tCB (rListOf K) (tCons (tVar 1) tNil)) (gName 2))
  (tSeq (tAsg (tCall S__law_draw [] E0 (tCons (tVar 0) (tCons (tCB (rLenS K) (tCons (tVar 2) tNil)) tNil))) (gName 3))
  (tSeq (tAsg (tCall S__law_draw [] E0 (tCons (tVar 0) (tCons (tCB (rLenS K) (tCons (tVar 2) tNil)) tNil))) (gName 4))
  (tSeq (tAsg (tCall S__law_draw [] E0 (tCons (tVar 0) (tCons (tC (.int 5)) tNil))) (gName 5))
  (tSeq (tIfS (tTest (tOp rEq (tVar 5) (tC (.int 0)))) (tAsg (tCall S__law_web [] E0 (tCons (tVar 0) (tCons (tC (.int 5)) tNil))) (gSub (tVar 2) (tVar 3) rSetL)) tNext)
  (tSeq (tIfS (tTest (tOp rEq (tVar 5) (tC (.int 1)))) (tAsg (tCall S__law_moved_web [] E0 (tCons (tOp (rIxL K) (tVar 2) (tVar 3)) (tCons (tCall S__law_turned [] E0 (tCons (tVar 0) (tCons (tOp (rIxT K) (tOp (rIxL K) (tVar 2) (tVar 3)) (tC (.int 0))) tNil))) tNil))) (gSub (tVar 2) (tVar 3) rSetL)) tNext)
  (tSeq (tIfS (tTest (tOp rEq (tVar 5) (tC (.int 2)))) (tSeq (tAsg (tOp (rIxT K) (tVar 1) (tVar 4)) (gSub (tVar 2) (tVar 3) rSetL))
  (tAsg (tOp (rIxT K) (tVar 1) (tVar 3)) (gSub (tVar 2) (tVar 4) rSetL))) tNext)
  (tSeq (tIfS (tTest (tOp rEq (tVar 5) (tC (.int 3)))) (tAsg (tTup (tCons (tOp (rIxT K) (tOp (rIxL K) (tVar 2) (tVar 3)) (tC (.int 0))) (tCons (tThen (tCall S__law_ties [] E0 (tCons (tOp (rIxT K) (tOp (rIxL K) (tVar 2) (tVar 3)) (tC (.int 0))) tNil)) (kTup K)) tNil))) (gSub (tVar 2) (tVar 3) rSetL)) tNext)
  (tSeq (tIfS (tTest (tOp rEq (tVar 5) (tC (.int 4)))) (tAsg (tTup (tCons (tOp (rIxT K) (tOp (rIxL K) (tVar 2) (tVar 3)) (tC (.int 0))) (tCons (tThen (tLc (iRng1 (tCons (tOp rSubI (tOp (rIxT K) (tOp (rIxL K) (tVar 2) (tVar 3)) (tC (.int 0))) (tC (.int 1))) tNil)) (gName 6) tYes (tTup (tCons (tVar 6) (tCons (tOp rAddI (tVar 6) (tC (.int 1))) tNil))) [6]) (kTup K)) tNil))) (gSub (tVar 2) (tVar 3) rSetL)) tNext)
  (tRet (tThen (tVar 2) (kTup K))))))))))))
def t_law (K : PySem.W.Frag) (S__law_is : Sp) (S_tree_holds : Sp) (S__law_judged : Sp) (S__law_swaps : Sp) (S__law_draw : Sp) (S__law_other_demand : Sp) (S__law_other_tree : Sp) (S__law_tree : Sp) (S__law_scene : Sp) (S__law_bag : Sp) : TS :=
  (tSeq (tFor (iList K (tOp rCat (tSl (rSlL K) (tVar 0) tNoPart (tPart (tC (.int 4)))) (tLst (tCons (tCB (rLenS K) (tCons (tVar 0) tNil)) tNil)))) (gName 1) (tSeq (tAsg (tCall S__law_bag [] E0 (tCons (tVar 1) tNil)) (gName 2))
  (tSeq (tAsg (tCall S__law_scene [] E0 (tCons (tVar 2) tNil)) (gTup K 3 (gCons (gName 3) (gCons (gName 4) (gCons (gName 5) gNil)))))
  (tSeq (tAsg (tCall S__law_tree [] E0 (tCons (tVar 2) (tCons (tVar 3) (tCons (tVar 4) (tCons (tVar 5) tNil))))) (gName 6))
  (tFor (iRng1 (tCons (tC (.int 5)) tNil)) (gName 7) (tSeq (tPar3 8 9 10 (tCons (tVar 3) (tCons (tVar 5) (tCons (tVar 6) tNil))))
  (tSeq (tAsg (tCall S__law_draw [] E0 (tCons (tVar 2) (tCons (tC (.int 5)) tNil))) (gName 11))
  (tSeq (tIfS (tTest (tOp rLtI (tVar 11) (tC (.int 3)))) (tAsg (tCall S__law_other_tree [] E0 (tCons (tVar 2) (tCons (tVar 6) (tCons (tVar 5) (tCons (tCB (rLenS K) (tCons (tVar 3) tNil)) tNil))))) (gName 10)) tNext)
  (tSeq (tIfS (tOr (tTest (tOp rEq (tVar 11) (tC (.int 3)))) (tTest (tOp rEq (tVar 11) (tC (.int 0))))) (tAsg (tCall S__law_other_demand [] E0 (tCons (tVar 2) (tCons (tVar 3) tNil))) (gName 8)) tNext)
  (tSeq (tIfS (tTest (tOp rEq (tVar 11) (tC (.int 4)))) (tAsg (tCB rMax2 (tCons (tC (.int 1)) (tCons (tCB rMin2 (tCons (tC (.int 8)) (tCons (tOp rAddI (tVar 5) (tOp (rIxL K) (tLst (tCons (tC (.int 1)) (tCons (tUn uNegI (tC (.int 1))) tNil))) (tCall S__law_draw [] E0 (tCons (tVar 2) (tCons (tC (.int 2)) tNil))))) tNil))) tNil))) (gName 9)) tNext)
  (tSeq (tAsg (tCall S__law_judged [] E0 (tCons (tTup (tCons (tVar 8) (tCons (tVar 9) (tCons (tCall S__law_swaps [] E0 (tCons (tVar 8) tNil)) tNil)))) (tCons (tVar 10) (tCons tDNewT (tCons (tLst tNil) tNil))))) (gName 12))
  (tFor (iRng1 (tCons (tC (.int 2)) tNil)) (gName 13) (tIfS (tNot (tB (tCall S__law_is [] E0 (tCons (tCall S_tree_holds [] E0 (tCons (tVar 8) (tCons (tVar 9) (tCons (tVar 10) tNil)))) (tCons (tVar 12) tNil))))) (tRet (tC (.bl false))) tNext)))))))))))))
  (tRet (tC (.bl true))))
end Hue
namespace Hue
open PySem PySem.Spec PyProof.Rows L2 DL
/-- the evaluation of an expression that reckons alone -/
local macro_rules | `(tactic| walk_at "e") => `(tactic| first
  | (with_reducible apply ev_var); rfl
  | (with_reducible exact ev_int)
  | ((with_reducible refine ev_to ev_int ?_); rfl)
  | (with_reducible exact ev_bl)
  | (with_reducible exact ev_str)
  | (with_reducible exact ev_non)
  | (with_reducible exact eva_nil)
  | (with_reducible apply eva_cons1) <;> walk_at "e"
  | (with_reducible apply ev_tup1) <;> walk_at "e"
  | (with_reducible apply ev_add) <;> walk_at "e"
  | (with_reducible apply ev_sub) <;> walk_at "e"
  | (with_reducible apply ev_ixT) <;> walk_at "e"
  | (with_reducible apply ev_ixL) <;> (walk_at "e"; done)
  | (with_reducible apply ev_ixV) <;> walk_at "e"
  | (with_reducible apply ev_lt) <;> walk_at "e"
  | (with_reducible apply ev_le) <;> walk_at "e"
  | (with_reducible apply ev_gt) <;> walk_at "e"
  | (with_reducible apply ev_ge) <;> walk_at "e"
  | (with_reducible apply ev_eqI) <;> (walk_at "e"; done)
  | (with_reducible apply ev_neI) <;> (walk_at "e"; done)
  | (with_reducible apply ev_isN) <;> walk_at "e"
  | (with_reducible apply ev_notN) <;> walk_at "e"
  | (with_reducible apply ev_neg) <;> walk_at "e"
  | (with_reducible apply ev_min2) <;> walk_at "e"
  | (with_reducible apply ev_max2) <;> walk_at "e"
  | (with_reducible apply ev_lenT) <;> (walk_at "e"; done)
  | (with_reducible apply ev_lenL) <;> (walk_at "e"; done)
  | (with_reducible apply ev_lenV) <;> walk_at "e"
  | (with_reducible apply ev_lenD) <;> walk_at "e"
  | (with_reducible apply ev_lst1) <;> walk_at "e"
  | (with_reducible assumption)
  | (with_reducible rfl)
  | rfl
  | exact Nat.le_of_ble_eq_true rfl)
local macro_rules | `(tactic| walk_at "t") => `(tactic| first
  | (with_reducible apply evt_test1) <;> walk_at "e"
  | (with_reducible apply evt_B1) <;> walk_at "e"
  | (with_reducible apply evt_not1) <;> walk_at "t")
/-- the same, brought to the wanted form -/
local macro_rules | `(tactic| walk_at "c") => `(tactic| (refine ev_to (by walk_at "e") ?_; first | rfl | (simp only [D.int.injEq]; omega)))
abbrev dn (n : Nat) : D := .int (n : Int)
theorem dn_toNat {i : Int} (h : 0 ≤ i) : D.int i = dn i.toNat := by
  show D.int i = D.int _
  rw [Int.toNat_of_nonneg h]
/-! the bag -/
abbrev bagC (x y z : Int) : VC := .lst [.int x, .int y, .int z]
abbrev big : Nat := 2 ^ 200
structure BagOk (x y z : Int) : Prop where
  x0 : 0 ≤ x
  y0 : 0 ≤ y
  y1 : y.natAbs < 2 ^ 200
def Bag (m : Mu) (b : Addr) : Prop := ∃ x y z, m b = some (bagC x y z) ∧ BagOk x y z
def To (b : Addr) (m m' : Mu) : Prop := Bag m' b ∧ ∀ a, a ≠ b → m' a = m a
theorem To.refl {b : Addr} {m : Mu} (h : Bag m b) : To b m m := ⟨h, fun _ _ => rfl⟩
theorem To.trans {b : Addr} {m m1 m2 : Mu} (h : To b m m1) (k : To b m1 m2) : To b m m2 := ⟨k.1, fun a ha => (k.2 a ha).trans (h.2 a ha)⟩
theorem Bag.dm {m : Mu} {b : Addr} (h : Bag m b) : DL.dm m b := by
  obtain ⟨x, y, z, e, _⟩ := h
  exact dm_of e
theorem To.dm {b : Addr} {m m1 : Mu} (h : To b m m1) {a : Addr} (ha : DL.dm m a) : DL.dm m1 a := by
  by_cases e : a = b
  · rw [e]; exact h.1.dm
  · unfold DL.dm; rw [h.2 a e]; exact ha
theorem To.put {b : Addr} {m : Mu} {x y z : Int} (h : BagOk x y z) : To b m (pt m b (bagC x y z)) := ⟨⟨x, y, z, pt_same, h⟩, fun a ha => pt_ne ha⟩
structure AMix where
  (b : Addr) (x y z : Int)
abbrev spMix : Sp := spT (α := AMix) (fun a => [.vol a.b]) (fun a m => m a.b = some (bagC a.x a.y a.z) ∧ BagOk a.x a.y a.z)
  fun a m d m' => ∃ y, BagOk a.x y (a.z + 2) ∧ m' = pt m a.b (bagC a.x y (a.z + 2))
theorem b_mix {K : PySem.W.Frag} {b : Addr} {x y z : Int} {m : Mu} (h : m b = some (bagC x y z) ∧ BagOk x y z) {A : List Anc} :
    Wp A (start0 2 [.vol b]) m (t__law_mix K) (PFT (fun d m' => ∃ y, BagOk x y (z + 2) ∧ m' = pt m b (bagC x y (z + 2))) m) := by
  obtain ⟨hm, h⟩ := h
  have hm : m b = some (.lst [.int x, .int y, .int z]) := hm
  unfold t__law_mix
  refine q_asg1 (by walk_at "e") ?_
  have hw : CMulW y y := wide_mul h.y1 h.y1 (by decide) (by decide) (by decide)
  have hw2 : CMulW 48271 y := wide_mul (a := 20) (b := 200) (by decide) h.y1 (by decide) (by decide) (by decide)
  refine wp_seq (wp_setL (R1 := Is (.int ((y * y + 48271 * y + z) % (10 ^ (37 : Int).toNat + 43))) m) ?_ fun d m1 e => ?_)
  · exact ev_mod (ev_add (ev_add (ev_mul (by walk_at "e") (by walk_at "e") hw) (ev_mul (by walk_at "e") (by walk_at "e") hw2)) (by walk_at "e")) (ev_add (ev_pow (by walk_at "e") (by walk_at "e") (by decide)) (by walk_at "e")) (by decide)
  · obtain ⟨rfl, rfl⟩ := e
    refine ⟨b, _, 1, by walk_at "e", by walk_at "e", hm, by show 1 < 3; decide, ?_⟩
    have hm1 : pt m1 b (.lst ([D.int x, .int y, .int z].set 1 (.int ((y * y + 48271 * y + z) % (10 ^ (37 : Int).toNat + 43))))) b = some (.lst [.int x, .int ((y * y + 48271 * y + z) % (10 ^ (37 : Int).toNat + 43)), .int z]) := pt_same
    refine wp_setL (R1 := Is (.int (z + 2)) _) (by walk_at "e") fun d m2 e => ?_
    obtain ⟨rfl, rfl⟩ := e
    refine ⟨b, _, 2, by walk_at "e", by walk_at "e", hm1, by show 2 < 3; decide, ?_⟩
    show FinT _ _ _ _
    refine fin_same (fun a ha => ?_) ⟨(y * y + 48271 * y + z) % (10 ^ (37 : Int).toNat + 43), ⟨h.x0, ?_, ?_⟩, ?_⟩
    · rw [pt_pt]; exact dm_pt.mpr (.inr ha)
    · exact Int.emod_nonneg _ (by decide)
    · have h1 : (y * y + 48271 * y + z) % (10 ^ (37 : Int).toNat + 43) < 10 ^ (37 : Int).toNat + 43 := Int.emod_lt_of_pos _ (by decide)
      have h2 : 0 ≤ (y * y + 48271 * y + z) % (10 ^ (37 : Int).toNat + 43) := Int.emod_nonneg _ (by decide)
      have h3 : ((10 : Int) ^ (37 : Int).toNat + 43) < 2 ^ 200 := by decide
      generalize (y * y + 48271 * y + z) % (10 ^ (37 : Int).toNat + 43) = q at h1 h2
      generalize ((10 : Int) ^ (37 : Int).toNat + 43) = c at h1 h3
      have h4 : q < ((2 ^ 200 : Nat) : Int) := Int.lt_trans h1 (by exact h3)
      omega
    · rw [pt_pt]; rfl

structure ABag where
  cell : Int
/-- a new bag comes -/
abbrev spBag : Sp := spT (α := ABag) (fun a => [.int a.cell]) (fun _ _ => True) fun _ m d m' => ∃ b, d = .vol b ∧ ¬ dm m b ∧ To b m m'
theorem b_bag {K : PySem.W.Frag} {c : Int} {m : Mu} {A : List Anc} :
    Wp A (start0 2 [.int c]) m (t__law_bag K spMix) (PFT (fun d m' => ∃ b, d = .vol b ∧ ¬ dm m b ∧ To b m m') m) := by
  unfold t__law_bag
  have c24 : (10 : Int) ^ (24 : Int).toNat = 10 ^ 24 := by decide
  have h1 : 0 ≤ c % 10 ^ (24 : Int).toNat := Int.emod_nonneg _ (by decide)
  have h2 : c % 10 ^ (24 : Int).toNat < 10 ^ (24 : Int).toNat := Int.emod_lt_of_pos _ (by decide)
  have h3 : (10 : Int) ^ (24 : Int).toNat < 2 ^ 80 := by decide
  have h4 : (c % 10 ^ (24 : Int).toNat).natAbs < 2 ^ 80 := by
    generalize c % 10 ^ (24 : Int).toNat = q at h1 h2
    generalize (10 : Int) ^ (24 : Int).toNat = e at h2 h3
    have h5 : q < ((2 ^ 80 : Nat) : Int) := Int.lt_trans h2 h3
    omega
  refine q_asgV (ev_lstV (eva_cons1 (ev_max2 (by walk_at "e") (ev_sub (by walk_at "e") (ev_pow (by walk_at "e") (by walk_at "e") (by decide)))) (eva_cons1 (ev_add (ev_add (ev_mul (ev_mod (by walk_at "e") (ev_pow (by walk_at "e") (by walk_at "e") (by decide)) (by decide)) (by walk_at "e") (wide_mul (a := 80) (b := 20) h4 (by decide) (by decide) (by decide) (by decide))) (ev_pow (by walk_at "e") (by walk_at "e") (by decide))) (by walk_at "e")) (eva_cons1 (by walk_at "e") eva_nil)))) fun b hb => ?_
  generalize hx : max 0 (c - 10 ^ (18 : Int).toNat) = x
  generalize hy : c % 10 ^ (24 : Int).toNat * 69621 + 10 ^ (30 : Int).toNat + 19 = y
  have hx0 : 0 ≤ x := by rw [← hx]; exact Int.le_max_left _ _
  have ok : BagOk x y 3 := by
    have h6 : (10 : Int) ^ (30 : Int).toNat < 2 ^ 110 := by decide
    have h7 : (0 : Int) < 10 ^ (30 : Int).toNat := by decide
    have h8 : (2 : Int) ^ 110 + 2 ^ 110 + 19 < 2 ^ 200 := by decide
    have h9 : (2 : Int) ^ 80 * 69621 < 2 ^ 110 := by decide
    have e1 : y < ((2 ^ 200 : Nat) : Int) ∧ 0 ≤ y := by
      rw [← hy]
      generalize c % 10 ^ (24 : Int).toNat = q at h1 h2 h4
      generalize (10 : Int) ^ (30 : Int).toNat = e at h6 h7
      have h4' : q < ((2 ^ 80 : Nat) : Int) := by omega
      have e8 : ((2 ^ 80 : Nat) : Int) = 2 ^ 80 := by decide
      have e20 : ((2 ^ 200 : Nat) : Int) = 2 ^ 200 := by decide
      rw [e8] at h4'
      rw [e20]
      generalize (2 : Int) ^ 200 = g at *
      generalize (2 : Int) ^ 110 = f at *
      generalize (2 : Int) ^ 80 = p at *
      omega
    exact ⟨hx0, e1.2, by have := e1.1; have := e1.2; omega⟩
  refine q_drop (ev_callT1 (AMix.mk b x y 3) (by walk_at "e") ⟨pt_same, ok⟩ fun d m2 h => h) fun d m2 h => ?_
  obtain ⟨y1, ok1, rfl⟩ := h
  refine q_drop (ev_callT1 (AMix.mk b x y1 (3 + 2)) (by walk_at "e") ⟨pt_same, ok1⟩ fun d m2 h => h) fun d m3 h => ?_
  obtain ⟨y2, ok2, rfl⟩ := h
  refine wp_ret (ev_mono (by walk_at "e") fun d m' h => ?_)
  obtain ⟨rfl, rfl⟩ := h
  show FinT _ _ _ _
  simp only [pt_pt]
  exact fin_same (fun a ha => dm_pt.mpr (.inr ha)) ⟨b, rfl, hb, ⟨_, _, _, pt_same, ok2⟩, fun a ha => pt_ne ha⟩
structure ADraw where
  (b : Addr) (n : Nat)
abbrev spDraw : Sp := spT (α := ADraw) (fun a => [.vol a.b, dn a.n]) (fun a m => Bag m a.b ∧ 0 < a.n ∧ a.n < 1000000000) fun a m d m' => ∃ k, d = dn k ∧ k < a.n ∧ To a.b m m'
theorem b_draw {K : PySem.W.Frag} {b : Addr} {n : Nat} {m : Mu} (h : Bag m b ∧ 0 < n ∧ n < 1000000000) {A : List Anc} :
    Wp A (start0 3 [.vol b, dn n]) m (t__law_draw K spMix) (PFT (fun d m' => ∃ k, d = dn k ∧ k < n ∧ To b m m') m) := by
  obtain ⟨⟨x, y, z, hm, ok⟩, n0, n1⟩ := h
  have hm : m b = some (.lst [.int x, .int y, .int z]) := hm
  have n0' : (0 : Int) < (n : Int) := by have : 0 < n := n0; omega
  have n1' : (n : Int) < 1073741824 := by have : n < 1000000000 := n1; omega
  unfold t__law_draw
  refine q_if (by walk_at "t") (fun hx => ?_) fun hx => ?_
  · have hx : 0 < x := of_decide_eq_true hx
    refine q_asg1 (ev_mod (by walk_at "e") (by walk_at "e") n0') ?_
    refine wp_seq (wp_setL (R1 := Is (.int (x / n)) m) (ev_div (by walk_at "e") (by walk_at "e") ⟨n0', n1'⟩) fun d m1 e => ?_)
    obtain ⟨rfl, rfl⟩ := e
    refine ⟨b, _, 0, by walk_at "e", by walk_at "e", hm, by show 0 < 3; decide, ?_⟩
    refine wp_ret (ev_mono (by walk_at "e") fun d m' h => ?_)
    obtain ⟨rfl, rfl⟩ := h
    show FinT _ _ _ _
    have e1 : 0 ≤ x % (n : Int) := Int.emod_nonneg _ (by omega)
    have e2 : x % (n : Int) < n := Int.emod_lt_of_pos _ n0'
    refine fin_same (fun a ha => dm_pt.mpr (.inr ha)) ⟨(x % (n : Int)).toNat, ?_, by omega, ⟨x / n, y, z, pt_same, ⟨Int.ediv_nonneg ok.x0 (by omega), ok.y0, ok.y1⟩⟩, fun a ha => pt_ne ha⟩
    exact dn_toNat e1
  · refine q_drop (ev_callT1 (AMix.mk b x y z) (by walk_at "e") ⟨hm, ok⟩ fun d m2 h => h) fun d m2 h => ?_
    obtain ⟨y1, ok1, rfl⟩ := h
    have hm2 : pt m b (bagC x y1 (z + 2)) b = some (.lst [.int x, .int y1, .int (z + 2)]) := pt_same
    refine wp_ret (ev_mono (ev_mod (ev_div (by walk_at "e") (ev_pow (by walk_at "e") (by walk_at "e") (by decide)) (by decide)) (by walk_at "e") n0') fun d m' h => ?_)
    obtain ⟨rfl, rfl⟩ := h
    show FinT _ _ _ _
    have e1 : 0 ≤ y1 / 10 ^ (9 : Int).toNat % (n : Int) := Int.emod_nonneg _ (by omega)
    have e2 : y1 / 10 ^ (9 : Int).toNat % (n : Int) < n := Int.emod_lt_of_pos _ n0'
    refine fin_same (fun a ha => dm_pt.mpr (.inr ha)) ⟨(y1 / 10 ^ (9 : Int).toNat % (n : Int)).toNat, ?_, by omega, To.put ok1⟩
    exact dn_toNat e1

/-- a draw, to whoever asks -/
theorem ev_draw {r : Rho} {m : Mu} {tl : TA} {b : Addr} {n : Nat} {R : RR} {E : XK} (ha : EvA1 r m tl [.vol b, dn n]) (hb : Bag m b) (h0 : 0 < n) (h1 : n < 1000000000) (k : ∀ k m2, k < n → To b m m2 → R (dn k) m2) : Ev r m (tCall spDraw [] E tl) R :=
  ev_callT1 (ADraw.mk b n) ha ⟨hb, h0, h1⟩ fun d m2 h => by obtain ⟨q, rfl, h2, h3⟩ := h; exact k q m2 h2 h3
end Hue
namespace Hue
open PySem PySem.Spec PyProof.Rows L2 DL
/-- the evaluation of an expression that reckons alone -/
local macro_rules | `(tactic| walk_at "e") => `(tactic| first
  | (with_reducible apply ev_var); rfl
  | (with_reducible exact ev_int)
  | ((with_reducible refine ev_to ev_int ?_); rfl)
  | (with_reducible exact ev_bl)
  | (with_reducible exact ev_str)
  | (with_reducible exact ev_non)
  | (with_reducible exact eva_nil)
  | (with_reducible apply eva_cons1) <;> walk_at "e"
  | (with_reducible apply ev_tup1) <;> walk_at "e"
  | (with_reducible apply ev_add) <;> walk_at "e"
  | (with_reducible apply ev_sub) <;> walk_at "e"
  | (with_reducible apply ev_ixT) <;> walk_at "e"
  | (with_reducible apply ev_ixL) <;> (walk_at "e"; done)
  | (with_reducible apply ev_ixV) <;> walk_at "e"
  | (with_reducible apply ev_lt) <;> walk_at "e"
  | (with_reducible apply ev_le) <;> walk_at "e"
  | (with_reducible apply ev_gt) <;> walk_at "e"
  | (with_reducible apply ev_ge) <;> walk_at "e"
  | (with_reducible apply ev_eqI) <;> (walk_at "e"; done)
  | (with_reducible apply ev_neI) <;> (walk_at "e"; done)
  | (with_reducible apply ev_isN) <;> walk_at "e"
  | (with_reducible apply ev_notN) <;> walk_at "e"
  | (with_reducible apply ev_neg) <;> walk_at "e"
  | (with_reducible apply ev_min2) <;> walk_at "e"
  | (with_reducible apply ev_max2) <;> walk_at "e"
  | (with_reducible apply ev_lenT) <;> (walk_at "e"; done)
  | (with_reducible apply ev_lenL) <;> (walk_at "e"; done)
  | (with_reducible apply ev_lenV) <;> walk_at "e"
  | (with_reducible apply ev_lenD) <;> walk_at "e"
  | (with_reducible apply ev_lst1) <;> walk_at "e"
  | (with_reducible assumption)
  | (with_reducible rfl)
  | rfl
  | exact Nat.le_of_ble_eq_true rfl)
local macro_rules | `(tactic| walk_at "t") => `(tactic| first
  | (with_reducible apply evt_test1) <;> walk_at "e"
  | (with_reducible apply evt_B1) <;> walk_at "e"
  | (with_reducible apply evt_not1) <;> walk_at "t")
/-- the same, brought to the wanted form -/
local macro_rules | `(tactic| walk_at "c") => `(tactic| (refine ev_to (by walk_at "e") ?_; first | rfl | (simp only [D.int.injEq]; omega)))
abbrev dT (L : List Nat) : D := .tup (L.map dn)
abbrev dL (L : List Nat) : D := .lst (L.map dn)
/-- the bag went on; else all that stood in the store stands there -/
def ToX (b : Addr) (m m1 : Mu) : Prop := Bag m1 b ∧ ∀ a, a ≠ b → dm m a → m1 a = m a
theorem To.x {b : Addr} {m m1 : Mu} (h : To b m m1) : ToX b m m1 := ⟨h.1, fun a ha _ => h.2 a ha⟩
theorem ToX.refl {b : Addr} {m : Mu} (h : Bag m b) : ToX b m m := ⟨h, fun _ _ _ => rfl⟩
theorem ToX.dm {b : Addr} {m m1 : Mu} (h : ToX b m m1) {a : Addr} (ha : DL.dm m a) : DL.dm m1 a := by
  by_cases e : a = b
  · rw [e]; exact h.1.dm
  · unfold DL.dm; rw [h.2 a e ha]; exact ha
theorem ToX.trans {b : Addr} {m m1 m2 : Mu} (h : ToX b m m1) (k : ToX b m1 m2) : ToX b m m2 := ⟨k.1, fun a ha hd => (k.2 a ha (h.dm hd)).trans (h.2 a ha hd)⟩
theorem ToX.to {b : Addr} {m m1 m2 : Mu} (h : ToX b m m1) (k : To b m1 m2) : ToX b m m2 := h.trans k.x
theorem ToX.put {b l : Addr} {m m1 : Mu} {c : VC} (h : ToX b m m1) (hb : l ≠ b) (hl : ¬ DL.dm m l) : ToX b m (pt m1 l c) := by
  obtain ⟨⟨x, y, z, e, ok⟩, k⟩ := h
  exact ⟨⟨x, y, z, by rw [pt_ne hb.symm]; exact e, ok⟩, fun a ha hd => by rw [pt_ne (ne_dm hd hl)]; exact k a ha hd⟩
theorem fin_to {post : RR} {b : Addr} {m m1 : Mu} {d : D} (h : ToX b m m1) (k : ∀ m', To b m m' → post d m') : FinT post m d m1 := by
  obtain ⟨⟨x, y, z, e, ok⟩, hk⟩ := h
  refine ⟨pt m b (bagC x y z), fun a c hc => ?_, fun a ha => dm_pt.mpr (.inr ha), k _ (To.put ok)⟩
  by_cases ha : a = b
  · subst ha
    rw [pt_same] at hc
    rw [e, hc]
  · rw [pt_ne ha] at hc
    rw [hk a ha (dm_of hc)]; exact hc
theorem rng_dn (n : Nat) : rngD 0 n = (List.range n).map dn := by
  unfold rngD
  apply List.map_congr_left
  intro i _
  rw [Int.zero_add]
theorem rng_dn2 (n : Nat) : rngD 0 ((n : Int).toNat) = (List.range n).map dn := by rw [Int.toNat_natCast]; exact rng_dn n
theorem eraseIdx_map' {α β : Type} (f : α → β) (E : List α) (k : Nat) : (E.map f).eraseIdx k = (E.eraseIdx k).map f := by
  rw [List.eraseIdx_eq_take_drop_succ, List.eraseIdx_eq_take_drop_succ, List.map_append, List.map_take, List.map_drop]
theorem erase_perm {α : Type} {E : List α} {k : Nat} (hk : k < E.length) : ([E[k]] ++ E.eraseIdx k).Perm E := by
  have e : E = E.take k ++ (E[k] :: E.drop (k + 1)) := by rw [List.getElem_cons_drop, List.take_append_drop]
  rw [List.eraseIdx_eq_take_drop_succ]
  conv => rhs; rw [e]
  exact (List.perm_middle (l₁ := E.take k) (l₂ := E.drop (k + 1)) (a := E[k])).symm
structure ATurned where
  (b : Addr) (n : Nat)
abbrev spTurned : Sp := spT (α := ATurned) (fun a => [.vol a.b, dn a.n]) (fun a m => Bag m a.b ∧ a.n ≤ 1000) fun a m d m' => ∃ L : List Nat, d = dL L ∧ L.Perm (List.range a.n) ∧ To a.b m m'
theorem b_turned {K : PySem.W.Frag} {b : Addr} {n : Nat} {m : Mu} (h : Bag m b ∧ n ≤ 1000) {A : List Anc} :
    Wp A (start0 4 [.vol b, dn n]) m (t__law_turned K spDraw) (PFT (fun d m' => ∃ L : List Nat, d = dL L ∧ L.Perm (List.range n) ∧ To b m m') m) := by
  obtain ⟨hb, hn⟩ := h
  unfold t__law_turned
  refine q_asgV (ev_listRg (n := (n : Int)) (by walk_at "e") (by omega) (.inr rfl)) fun l hl => ?_
  rw [rng_dn2]
  have lb : l ≠ b := fun e => hl (e ▸ hb.dm)
  refine wp_ret (ev_lc (src_rng1' (n := n) (by walk_at "e") (by omega)) fun ds m1 q => ?_)
  obtain ⟨rfl, rfl⟩ := q
  refine ⟨fun i acc m' => ∃ L E : List Nat, acc = L.map dn ∧ m' l = some (.lst (E.map dn)) ∧ (L ++ E).Perm (List.range n) ∧ L.length = i ∧ ToX b m m', ⟨[], List.range n, rfl, pt_same, by simp, rfl, (ToX.refl hb).put lb hl⟩, fun _ _ _ _ => trivial, fun i d acc m' hd h => ?_, by rw [rngD_len]; exact Nat.le_trans hn (by decide), .inl fun acc m' h => ?_⟩
  · obtain ⟨L, E, rfl, hm', hp, hL, ht⟩ := h
    obtain ⟨hi, rfl⟩ := rngD_get hd
    have hE : 0 < E.length := by
      have := hp.length_eq
      rw [List.length_append, List.length_range] at this
      omega
    have hE2 : E.length ≤ n := by
      have := hp.length_eq
      rw [List.length_append, List.length_range] at this
      omega
    refine ⟨_, [3], by simp, gd_name, evt_mono evt_yes fun b0 m2 q => ?_⟩
    obtain ⟨rfl, rfl⟩ := q
    rw [if_pos rfl]
    refine ev_popAt (R1 := fun as m3 => ∃ k, as = [dn k] ∧ k < E.length ∧ To b m2 m3) (by walk_at "e") hm' ?_ fun as m3 h => ?_
    · refine eva_cons (R1 := fun d m3 => ∃ k, d = dn k ∧ k < E.length ∧ To b m2 m3) (ev_draw (n := E.length) (eva_cons1 (by walk_at "e") (eva_cons1 (ev_to (ev_lenV (by walk_at "e") hm') (by rw [List.length_map])) eva_nil)) ht.1 hE (by omega) fun k m3 hk h3 => ⟨k, rfl, hk, h3⟩) fun d m3 h => ?_
      obtain ⟨k, rfl, hk, h3⟩ := h
      exact eva_mono eva_nil fun ds m4 q => by obtain ⟨rfl, rfl⟩ := q; exact ⟨k, rfl, hk, h3⟩
    · obtain ⟨k, rfl, hk, h3⟩ := h
      refine ⟨E.map dn, k, dn E[k], rfl, by rw [h3.2 l lb]; exact hm', by rw [List.getElem?_map, List.getElem?_eq_getElem hk]; rfl, by omega, L ++ [E[k]], E.eraseIdx k, by simp, by rw [pt_same, eraseIdx_map'], ?_, by simp [hL], (ht.to h3).put lb hl⟩
      refine List.Perm.trans ?_ hp
      rw [List.append_assoc]
      exact List.Perm.append_left L (erase_perm hk)
  · obtain ⟨L, E, rfl, hm', hp, hL, ht⟩ := h
    rw [rngD_len] at hL
    have hE : E = [] := by
      have := hp.length_eq
      rw [List.length_append, List.length_range] at this
      exact List.length_eq_zero_iff.mp (by omega)
    subst hE
    rw [List.append_nil] at hp
    show FinT _ _ _ _
    exact fin_to ht fun m' h => ⟨L, rfl, hp, h⟩
end Hue
namespace Hue
open PySem PySem.Spec PyProof.Rows L2 DL
/-- the evaluation of an expression that reckons alone -/
local macro_rules | `(tactic| walk_at "e") => `(tactic| first
  | (with_reducible apply ev_var); rfl
  | (with_reducible exact ev_int)
  | ((with_reducible refine ev_to ev_int ?_); rfl)
  | (with_reducible exact ev_bl)
  | (with_reducible exact ev_str)
  | (with_reducible exact ev_non)
  | (with_reducible exact eva_nil)
  | (with_reducible apply eva_cons1) <;> walk_at "e"
  | (with_reducible apply ev_tup1) <;> walk_at "e"
  | (with_reducible apply ev_add) <;> walk_at "e"
  | (with_reducible apply ev_sub) <;> walk_at "e"
  | (with_reducible apply ev_ixT) <;> walk_at "e"
  | (with_reducible apply ev_ixL) <;> (walk_at "e"; done)
  | (with_reducible apply ev_ixV) <;> walk_at "e"
  | (with_reducible apply ev_lt) <;> walk_at "e"
  | (with_reducible apply ev_le) <;> walk_at "e"
  | (with_reducible apply ev_gt) <;> walk_at "e"
  | (with_reducible apply ev_ge) <;> walk_at "e"
  | (with_reducible apply ev_eqI) <;> (walk_at "e"; done)
  | (with_reducible apply ev_neI) <;> (walk_at "e"; done)
  | (with_reducible apply ev_isN) <;> walk_at "e"
  | (with_reducible apply ev_notN) <;> walk_at "e"
  | (with_reducible apply ev_neg) <;> walk_at "e"
  | (with_reducible apply ev_min2) <;> walk_at "e"
  | (with_reducible apply ev_max2) <;> walk_at "e"
  | (with_reducible apply ev_lenT) <;> (walk_at "e"; done)
  | (with_reducible apply ev_lenL) <;> (walk_at "e"; done)
  | (with_reducible apply ev_lenV) <;> walk_at "e"
  | (with_reducible apply ev_lenD) <;> walk_at "e"
  | (with_reducible apply ev_lst1) <;> walk_at "e"
  | (with_reducible assumption)
  | (with_reducible rfl)
  | rfl
  | exact Nat.le_of_ble_eq_true rfl)
local macro_rules | `(tactic| walk_at "t") => `(tactic| first
  | (with_reducible apply evt_test1) <;> walk_at "e"
  | (with_reducible apply evt_B1) <;> walk_at "e"
  | (with_reducible apply evt_not1) <;> walk_at "t")
/-- the same, brought to the wanted form -/
local macro_rules | `(tactic| walk_at "c") => `(tactic| (refine ev_to (by walk_at "e") ?_; first | rfl | (simp only [D.int.injEq]; omega)))
/-! ties, webs -/
abbrev Tie := Nat × Nat
abbrev Web := Nat × List Tie
def tieRow (n a : Nat) : List Tie := (List.range (n - (a + 1))).map fun k => (a, a + 1 + k)
def tiesN (n : Nat) : List Tie := (List.range n).flatMap (tieRow n)
abbrev dW (w : Web) : D := .tup [dn w.1, .tup (w.2.map dp)]
abbrev dDm (ws : List Web) : D := .tup (ws.map dW)
theorem tieRow_len (n a : Nat) : (tieRow n a).length ≤ n := by unfold tieRow; rw [List.length_map, List.length_range]; omega
theorem flat_len {α β : Type} (f : α → List β) (n : Nat) : ∀ L : List α, (∀ a ∈ L, (f a).length ≤ n) → (L.flatMap f).length ≤ L.length * n
  | [], _ => by simp
  | a :: L, h => by
    rw [List.flatMap_cons, List.length_append, List.length_cons, Nat.succ_mul]
    have := flat_len f n L fun b hb => h b (List.mem_cons_of_mem _ hb)
    have := h a List.mem_cons_self
    omega
structure ATies where
  n : Nat
abbrev spTies : Sp := spT (α := ATies) (fun a => [dn a.n]) (fun a _ => a.n ≤ 100) fun a m => Is (.lst ((tiesN a.n).map dp)) m
theorem b_ties {K : PySem.W.Frag} {n : Nat} {m : Mu} (hn : n ≤ 100) {A : List Anc} : Wp A (start0 4 [dn n]) m (t__law_ties K) (PFT (Is (.lst ((tiesN n).map dp)) m) m) := by
  unfold t__law_ties
  refine q_asg1 (ev_lst1 eva_nil) ?_
  refine q_forT (List.range n) (fun (k : Nat) => D.int (k : Int)) (fun i r' m' => m' = m ∧ ∃ o, r' = [some (dn n), some (.lst (((List.range i).flatMap (tieRow n)).map dp)), o, none]) (src_rngN (n := n) (by walk_at "e") (by omega)) ⟨rfl, none, rfl⟩ (fun _ _ _ _ => trivial) (fun B i a r' m' _ ha hj => ?_) fun r' m' hj => ?_
  · obtain ⟨rfl, o, rfl⟩ := hj
    obtain ⟨hi, e⟩ : i < n ∧ i = a := by
      obtain ⟨h1, h2⟩ := List.getElem?_eq_some_iff.mp ha
      rw [List.length_range] at h1
      rw [List.getElem_range] at h2
      exact ⟨h1, h2⟩
    subst e
    refine ⟨_, _, gd_name, wp_asg (ev_mono (R := Is (.lst (((List.range i).flatMap (tieRow n)).map dp ++ (tieRow n i).map dp)) m') ?_ fun d m' q => ?_)⟩
    · refine ev_catL (.inl rfl) (.inl rfl) (by walk_at "e") (ev_to (ev_lcM (List.range (n - (i + 1))) _ (fun k => dp (i, i + 1 + k)) (src_rng2' (i := i + 1) (j := n) (eva_cons1 (by walk_at "c") (eva_cons1 (by walk_at "e") eva_nil)) (by omega) (by omega)) trivial (fun k _ => ⟨_, [3], by simp, gd_name, by walk_at "e"⟩) ?_) ?_) ?_
      · rw [List.length_range]; omega
      · unfold tieRow; rw [List.map_map]; rfl
      · have h1 := flat_len (tieRow n) n (List.range i) fun a _ => tieRow_len n a
        rw [List.length_range] at h1
        have h2 := tieRow_len n i
        have h3 : i * n ≤ 100 * 100 := Nat.mul_le_mul (by omega) hn
        rw [List.length_map, List.length_map]
        omega
    · obtain ⟨rfl, rfl⟩ := q
      refine ⟨rfl, some (dn i), ?_⟩
      rw [List.range_succ, List.flatMap_append, List.map_append]
      simp [List.flatMap_cons]
  · obtain ⟨rfl, o, rfl⟩ := hj
    rw [List.length_range]
    refine wp_ret (ev_mono (by walk_at "e") fun d m1 q => ?_)
    obtain ⟨rfl, rfl⟩ := q
    exact fin1 (.refl _) rfl
end Hue
namespace Hue
open PySem PySem.Spec PyProof.Rows L2 DL
/-- the evaluation of an expression that reckons alone -/
local macro_rules | `(tactic| walk_at "e") => `(tactic| first
  | (with_reducible apply ev_var); rfl
  | (with_reducible exact ev_int)
  | ((with_reducible refine ev_to ev_int ?_); rfl)
  | (with_reducible exact ev_bl)
  | (with_reducible exact ev_str)
  | (with_reducible exact ev_non)
  | (with_reducible exact eva_nil)
  | (with_reducible apply eva_cons1) <;> walk_at "e"
  | (with_reducible apply ev_tup1) <;> walk_at "e"
  | (with_reducible apply ev_add) <;> walk_at "e"
  | (with_reducible apply ev_sub) <;> walk_at "e"
  | (with_reducible apply ev_ixT) <;> walk_at "e"
  | (with_reducible apply ev_ixL) <;> (walk_at "e"; done)
  | (with_reducible apply ev_ixV) <;> walk_at "e"
  | (with_reducible apply ev_lt) <;> walk_at "e"
  | (with_reducible apply ev_le) <;> walk_at "e"
  | (with_reducible apply ev_gt) <;> walk_at "e"
  | (with_reducible apply ev_ge) <;> walk_at "e"
  | (with_reducible apply ev_eqI) <;> (walk_at "e"; done)
  | (with_reducible apply ev_neI) <;> (walk_at "e"; done)
  | (with_reducible apply ev_isN) <;> walk_at "e"
  | (with_reducible apply ev_notN) <;> walk_at "e"
  | (with_reducible apply ev_neg) <;> walk_at "e"
  | (with_reducible apply ev_min2) <;> walk_at "e"
  | (with_reducible apply ev_max2) <;> walk_at "e"
  | (with_reducible apply ev_lenT) <;> (walk_at "e"; done)
  | (with_reducible apply ev_lenL) <;> (walk_at "e"; done)
  | (with_reducible apply ev_lenV) <;> walk_at "e"
  | (with_reducible apply ev_lenD) <;> walk_at "e"
  | (with_reducible apply ev_lst1) <;> walk_at "e"
  | (with_reducible assumption)
  | (with_reducible rfl)
  | rfl
  | exact Nat.le_of_ble_eq_true rfl)
local macro_rules | `(tactic| walk_at "t") => `(tactic| first
  | (with_reducible apply evt_test1) <;> walk_at "e"
  | (with_reducible apply evt_B1) <;> walk_at "e"
  | (with_reducible apply evt_not1) <;> walk_at "t")
/-- the same, brought to the wanted form -/
local macro_rules | `(tactic| walk_at "c") => `(tactic| (refine ev_to (by walk_at "e") ?_; first | rfl | (simp only [D.int.injEq]; omega)))
def nrm (a b : Nat) : Tie := (min a b, max a b)
theorem dp_nrm (a b : Nat) : dp (nrm a b) = .tup [.int (min (a : Int) (b : Int)), .int (max (a : Int) (b : Int))] := by
  unfold nrm
  have e1 : ((min a b : Nat) : Int) = min (a : Int) (b : Int) := by omega
  have e2 : ((max a b : Nat) : Int) = max (a : Int) (b : Int) := by omega
  show D.tup [.int ((min a b : Nat) : Int), .int ((max a b : Nat) : Int)] = _
  rw [e1, e2]
/-- a web's ties by an order of its points -/
def mvT (L : List Nat) (t : Tie) : Tie := nrm (L.getD t.1 0) (L.getD t.2 0)
def mvW (L : List Nat) (w : Web) : Web := (w.1, srt (w.2.map (mvT L)))
structure AMoved where
  (w : Web) (L : List Nat) (d : D)
structure PMoved (w : Web) (L : List Nat) (d : D) : Prop where
  d : d = dT L ∨ d = dL L
  t : ∀ t ∈ w.2, t.1 < L.length ∧ t.2 < L.length
  x : ∀ x ∈ L, x < 64
  l : w.2.length < 64
abbrev spMoved : Sp := spT (α := AMoved) (fun a => [dW a.w, a.d]) (fun a _ => PMoved a.w a.L a.d) fun a m => Is (dW (mvW a.L a.w)) m
theorem getD_of {L : List Nat} {i : Nat} (h : i < L.length) : L[i]? = some (L.getD i 0) := by
  rw [List.getD_eq_getElem?_getD, List.getElem?_eq_getElem h]; rfl
theorem dn_at {L : List Nat} {i : Nat} (h : i < L.length) : atI (L.map dn) (i : Int) = some (dn (L.getD i 0)) := atI_n (by rw [List.getElem?_map, getD_of h]; rfl)
theorem getD_mem {L : List Nat} {i : Nat} (h : i < L.length) : L.getD i 0 ∈ L := List.mem_of_getElem? (getD_of h)
theorem b_moved {K : PySem.W.Frag} {w : Web} {L : List Nat} {d : D} {m : Mu} (h : PMoved w L d) {A : List Anc} : Wp A (start0 4 [dW w, d]) m (t__law_moved_web K) (PFT (Is (dW (mvW L w)) m) m) := by
  unfold t__law_moved_web
  have h1 : ∀ t ∈ w.2, (L.getD t.1 0) < 64 ∧ (L.getD t.2 0) < 64 := fun t ht => ⟨h.x _ (getD_mem (h.t t ht).1), h.x _ (getD_mem (h.t t ht).2)⟩
  have hd : d = .tup (L.map dn) ∨ d = .lst (L.map dn) := h.d
  refine wp_ret (ev_mono (R := Is (dW (mvW L w)) m) (ev_tup1 (eva_cons1 (by walk_at "e") (eva_cons1 ?_ eva_nil))) fun d' m1 q => ?_)
  · refine ev_tupleL (ev_sortU (L := w.2.map (mvT L)) (ev_to (ev_lcM w.2 dp (fun t => dp (mvT L t)) (src_tup1 (by walk_at "e")) trivial (fun t ht => ⟨_, _, ?_, gd_tup (gdl_cons gd_name (gdl_cons gd_name gdl_nil)), ?_⟩) (by have := h.l; omega)) (by rw [List.map_map]; rfl)) (by rw [List.length_map]; exact h.l) fun t ht => ?_)
    · simp
    · unfold mvT
      rw [dp_nrm]
      exact ev_tupleL (ev_sorted2 (ev_lst1 (eva_cons1 (ev_ixX (by walk_at "e") hd (by walk_at "e") (dn_at (h.t t ht).1)) (eva_cons1 (ev_ixX (by walk_at "e") hd (by walk_at "e") (dn_at (h.t t ht).2)) eva_nil))))
    · obtain ⟨u, hu, rfl⟩ := List.mem_map.mp ht
      have := h1 u hu
      unfold mvT nrm
      constructor
      · show min _ _ < 64; omega
      · show max _ _ < 64; omega
  · obtain ⟨rfl, rfl⟩ := q
    exact fin1 (.refl _) rfl
/-! cases -/
abbrev Case := List (Tie × Nat)
abbrev cI (p : Tie × Nat) : (Int × Int) × Int := (((p.1.1 : Int), (p.1.2 : Int)), (p.2 : Int))
abbrev dC (c : Case) : D := .dic (c.map cI)
def cget (c : Case) (t : Tie) : Option Nat := (c.find? fun p => decide (p.1 = t)).map (·.2)
def cput (c : Case) (t : Tie) (v : Nat) : Case := if (c.any fun p => decide (p.1 = t)) = true then c.map (fun p => if p.1 = t then (p.1, v) else p) else c ++ [(t, v)]
def cdrop (c : Case) (t : Tie) : Case := c.filter fun p => decide (p.1 ≠ t)
abbrev iT (t : Tie) : Int × Int := ((t.1 : Int), (t.2 : Int))
theorem iT_inj {a b : Tie} : iT a = iT b ↔ a = b := by
  constructor
  · intro h
    simp only [Prod.mk.injEq] at h
    exact Prod.ext (Int.ofNat.inj h.1) (Int.ofNat.inj h.2)
  · rintro rfl; rfl
theorem dec_iT {p : Tie × Nat} {t : Tie} : decide ((cI p).1 = iT t) = decide (p.1 = t) := by
  rw [Bool.eq_iff_iff, decide_eq_true_eq, decide_eq_true_eq]
  exact iT_inj
theorem dget_cI (t : Tie) : ∀ c : Case, dget (c.map cI) (iT t) = (cget c t).map fun (n : Nat) => (n : Int)
  | [] => rfl
  | p :: c => by
    have ih := dget_cI t c
    unfold dget cget at *
    rw [List.map_cons, List.find?_cons, List.find?_cons, dec_iT]
    cases decide (p.1 = t) with
    | true => rfl
    | false => exact ih
theorem dput_cI (t : Tie) (v : Nat) (c : Case) : dput (c.map cI) (iT t) (v : Int) = (cput c t v).map cI := by
  unfold dput cput
  have e : ((c.map cI).any fun p => decide (p.1 = iT t)) = c.any fun p => decide (p.1 = t) := by
    rw [List.any_map]
    congr 1
    funext p
    exact dec_iT
  rw [e]
  cases c.any fun p => decide (p.1 = t) with
  | true =>
    rw [if_pos rfl, if_pos rfl, List.map_map, List.map_map]
    apply List.map_congr_left
    intro p _
    show (if (cI p).1 = iT t then _ else _) = cI (if p.1 = t then _ else _)
    by_cases h : p.1 = t
    · rw [if_pos h, if_pos (show (cI p).1 = iT t from iT_inj.mpr h)]
    · rw [if_neg h, if_neg (show ¬ (cI p).1 = iT t from fun q => h (iT_inj.mp q))]
  | false =>
    rw [if_neg Bool.false_ne_true, if_neg Bool.false_ne_true, List.map_append]; rfl
theorem ddrop_cI (t : Tie) (c : Case) : ddrop (c.map cI) (iT t) = (cdrop c t).map cI := by
  unfold ddrop cdrop
  rw [List.filter_map]
  congr 1
  apply List.filter_congr
  intro p _
  show decide (¬ (cI p).1 = iT t) = decide (¬ p.1 = t)
  rw [Bool.eq_iff_iff, decide_eq_true_eq, decide_eq_true_eq]
  exact not_congr iT_inj
/-- the colour of a tie, 9 where it is not settled -/
def hueN (c : Case) (a b : Nat) : Nat := (cget c (nrm a b)).getD 9
structure AHue where
  (c : Case) (a b : Nat) (d : D)
abbrev spHue : Sp := spT (α := AHue) (fun a => [a.d, dn a.a, dn a.b]) (fun a m => DV m a.d (a.c.map cI)) fun a m => Is (dn (hueN a.c a.a a.b)) m
theorem b_hue {K : PySem.W.Frag} {c : Case} {a b : Nat} {d : D} {m : Mu} (h : DV m d (c.map cI)) {A : List Anc} : Wp A (start0 3 [d, dn a, dn b]) m (t__law_hue K) (PFT (Is (dn (hueN c a b)) m) m) := by
  unfold t__law_hue
  refine wp_ret (ev_mono (ev_dget2 (k := iT (nrm a b)) h (by walk_at "e") ?_ (by walk_at "e")) fun d' m1 q => ?_)
  · have q : Ev1 (start0 3 [d, dn a, dn b]) m (tTup (tCons (tCB rMin2 (tCons (tVar 1) (tCons (tVar 2) tNil))) (tCons (tCB rMax2 (tCons (tVar 1) (tCons (tVar 2) tNil))) tNil))) (dp (nrm a b)) := by
      rw [dp_nrm]
      walk_at "e"
    exact q
  · obtain ⟨rfl, rfl⟩ := q
    refine fin1 (.refl _) ?_
    rw [dget_cI]
    unfold hueN
    cases cget c (nrm a b) <;> rfl
/-- the colour of a tie, to whoever asks -/
theorem ev_hue {r : Rho} {m : Mu} {ta tb tc : TE} {c : Case} {a b : Nat} {d : D} {E : XK} (hd : DV m d (c.map cI)) (h0 : Ev1 r m ta d) (h1 : Ev1 r m tb (dn a)) (h2 : Ev1 r m tc (dn b)) : Ev1 r m (tCall spHue [] E (tCons ta (tCons tb (tCons tc tNil)))) (dn (hueN c a b)) :=
  ev_callT1 (AHue.mk c a b d) (eva_cons1 h0 (eva_cons1 h1 (eva_cons1 h2 eva_nil))) hd fun _ _ z => z
end Hue
namespace Hue
open PySem PySem.Spec PyProof.Rows L2 DL
/-- the evaluation of an expression that reckons alone -/
local macro_rules | `(tactic| walk_at "e") => `(tactic| first
  | (with_reducible apply ev_var); rfl
  | (with_reducible exact ev_int)
  | ((with_reducible refine ev_to ev_int ?_); rfl)
  | (with_reducible exact ev_bl)
  | (with_reducible exact ev_str)
  | (with_reducible exact ev_non)
  | (with_reducible exact eva_nil)
  | (with_reducible apply eva_cons1) <;> walk_at "e"
  | (with_reducible apply ev_tup1) <;> walk_at "e"
  | (with_reducible apply ev_add) <;> walk_at "e"
  | (with_reducible apply ev_sub) <;> walk_at "e"
  | (with_reducible apply ev_ixT) <;> walk_at "e"
  | (with_reducible apply ev_ixL) <;> (walk_at "e"; done)
  | (with_reducible apply ev_ixV) <;> walk_at "e"
  | (with_reducible apply ev_lt) <;> walk_at "e"
  | (with_reducible apply ev_le) <;> walk_at "e"
  | (with_reducible apply ev_gt) <;> walk_at "e"
  | (with_reducible apply ev_ge) <;> walk_at "e"
  | (with_reducible apply ev_eqI) <;> (walk_at "e"; done)
  | (with_reducible apply ev_neI) <;> (walk_at "e"; done)
  | (with_reducible apply ev_isN) <;> walk_at "e"
  | (with_reducible apply ev_notN) <;> walk_at "e"
  | (with_reducible apply ev_neg) <;> walk_at "e"
  | (with_reducible apply ev_min2) <;> walk_at "e"
  | (with_reducible apply ev_max2) <;> walk_at "e"
  | (with_reducible apply ev_lenT) <;> (walk_at "e"; done)
  | (with_reducible apply ev_lenL) <;> (walk_at "e"; done)
  | (with_reducible apply ev_lenV) <;> walk_at "e"
  | (with_reducible apply ev_lenD) <;> walk_at "e"
  | (with_reducible apply ev_lst1) <;> walk_at "e"
  | (with_reducible assumption)
  | (with_reducible rfl)
  | rfl
  | exact Nat.le_of_ble_eq_true rfl)
local macro_rules | `(tactic| walk_at "t") => `(tactic| first
  | (with_reducible apply evt_test1) <;> walk_at "e"
  | (with_reducible apply evt_B1) <;> walk_at "e"
  | (with_reducible apply evt_not1) <;> walk_at "t")
/-- the same, brought to the wanted form -/
local macro_rules | `(tactic| walk_at "c") => `(tactic| (refine ev_to (by walk_at "e") ?_; first | rfl | (simp only [D.int.injEq]; omega)))
structure WebOk (w : Web) : Prop where
  lo : 2 ≤ w.1
  hi : w.1 ≤ 5
  t : ∀ t ∈ w.2, t.1 < t.2 ∧ t.2 < w.1
  s : w.2.Pairwise fun a b => cd a < cd b
  l : w.2.length < 64
/-- so many points in some order -/
structure OrdOk (L : List Nat) (n : Nat) : Prop where
  nd : L.Nodup
  len : L.length = n
  lt : ∀ x ∈ L, x < n
theorem OrdOk.of {L : List Nat} {n : Nat} (h : L.Perm (List.range n)) : OrdOk L n :=
  ⟨h.symm.nodup List.nodup_range, by rw [h.length_eq, List.length_range], fun x hx => List.mem_range.mp (h.subset hx)⟩
theorem OrdOk.inj {L : List Nat} {n a b : Nat} (h : OrdOk L n) (ha : a < n) (hb : b < n) (e : L.getD a 0 = L.getD b 0) : a = b := by
  rw [List.getD_eq_getElem?_getD, List.getD_eq_getElem?_getD, List.getElem?_eq_getElem (by rw [h.len]; exact ha), List.getElem?_eq_getElem (by rw [h.len]; exact hb)] at e
  exact (List.getElem_inj h.nd).mp e
theorem nrm_inj {a b c d : Nat} (h : nrm a b = nrm c d) : (a = c ∧ b = d) ∨ (a = d ∧ b = c) := by
  unfold nrm at h
  simp only [Prod.mk.injEq] at h
  omega
theorem mvT_inj {L : List Nat} {n : Nat} (h : OrdOk L n) {t u : Tie} (ht : t.1 < t.2 ∧ t.2 < n) (hu : u.1 < u.2 ∧ u.2 < n) (e : mvT L t = mvT L u) : t = u := by
  rcases nrm_inj e with ⟨e1, e2⟩ | ⟨e1, e2⟩
  · exact Prod.ext (h.inj (by omega) (by omega) e1) (h.inj (by omega) (by omega) e2)
  · have h1 := h.inj (by omega) (by omega) e1
    have h2 := h.inj (by omega) (by omega) e2
    omega
theorem mvT_ok {L : List Nat} {n : Nat} (h : OrdOk L n) {t : Tie} (ht : t.1 < t.2 ∧ t.2 < n) : (mvT L t).1 < (mvT L t).2 ∧ (mvT L t).2 < n := by
  have h1 := h.lt _ (getD_mem (show t.1 < L.length by rw [h.len]; omega))
  have h2 := h.lt _ (getD_mem (show t.2 < L.length by rw [h.len]; omega))
  have h3 : L.getD t.1 0 ≠ L.getD t.2 0 := fun e => by have := h.inj (by omega) (by omega) e; omega
  unfold mvT nrm
  constructor
  · show min _ _ < max _ _; omega
  · show max _ _ < n; omega
theorem WebOk.mv {w : Web} (h : WebOk w) {L : List Nat} (hL : OrdOk L w.1) : WebOk (mvW L w) := by
  have hm : ∀ t ∈ w.2.map (mvT L), t.1 < t.2 ∧ t.2 < w.1 := fun t ht => by
    obtain ⟨u, hu, rfl⟩ := List.mem_map.mp ht
    exact mvT_ok hL (h.t u hu)
  have nd : (w.2.map (mvT L)).Nodup := by
    refine List.pairwise_map.mpr (List.Pairwise.imp_of_mem (fun {a b} ha hb hab e => ?_) h.s)
    have := mvT_inj hL (h.t a ha) (h.t b hb) e
    subst this
    exact Nat.lt_irrefl _ hab
  refine ⟨h.lo, h.hi, fun t ht => hm t ((srt_perm _).subset ht), ?_, by
    show (srt _).length < 64
    rw [(srt_perm _).length_eq, List.length_map]; exact h.l⟩
  have nd2 : (srt (w.2.map (mvT L))).Nodup := (srt_perm _).symm.nodup nd
  refine List.Pairwise.imp_of_mem (fun {a b} ha hb hab => ?_) ((srt_sorted (w.2.map (mvT L))).and nd2)
  have h1 := hm a ((srt_perm _).subset ha)
  have h2 := hm b ((srt_perm _).subset hb)
  have h9 : cd a ≠ cd b := fun e => hab.2 (cd_inj (by have := h.hi; omega) (by have := h.hi; omega) e)
  exact Nat.lt_of_le_of_ne hab.1 h9
theorem WebOk.pm {w : Web} (h : WebOk w) {L : List Nat} (hL : OrdOk L w.1) {d : D} (hd : d = dT L ∨ d = dL L) : PMoved w L d :=
  ⟨hd, fun t ht => by rw [hL.len]; have := h.t t ht; omega, fun x hx => by have := hL.lt x hx; have := h.hi; omega, h.l⟩
theorem ev_turned {r : Rho} {m : Mu} {tl : TA} {b : Addr} {n : Nat} {R : RR} {E : XK} (ha : EvA1 r m tl [.vol b, dn n]) (hb : Bag m b) (h1 : n ≤ 1000) (k : ∀ L m2, OrdOk L n → L.Perm (List.range n) → To b m m2 → R (dL L) m2) : Ev r m (tCall spTurned [] E tl) R :=
  ev_callT1 (ATurned.mk b n) ha ⟨hb, h1⟩ fun d m2 h => by obtain ⟨L, rfl, h2, h3⟩ := h; exact k L m2 (.of h2) h2 h3
theorem ev_opC {r : Rho} {m : Mu} {ta tb : TE} {o : R2} {R R1 : RR} {d2 : D} (ha : Ev r m ta R1) (hb : ∀ d1 m1, R1 d1 m1 → Ev1 r m1 tb d2) (ho : ∀ d1 m1, R1 d1 m1 → Op o m1 d1 d2 R) : Ev r m (tOp o ta tb) R := fun z σ H e v Q q =>
  ha z σ H e v _ fun x H1 d1 m1 s1 a1 z1 => hb d1 m1 z1 z σ H1 (e.go s1.ext) s1.vol _ fun y H2 d' m2 s2 a2 z2 => by
    obtain ⟨rfl, rfl⟩ := z2
    exact ho d1 m2 z1 z H2 x y s2.vol (At.go s2.ext _ _ a1) a2 Q (q.from (s1.trans s2))
theorem op_mono {o : R2} {m : Mu} {d1 d2 : D} {R R' : RR} (h : Op o m d1 d2 R) (k : ∀ d m', R d m' → R' d m') : Op o m d1 d2 R' := fun z H x y v hx hy Q q => h z H x y v hx hy Q fun w H2 d m' s a e => q w H2 d m' s a (k d m' e)
/-- a draw is held against a number -/
theorem evt_drawEq {r : Rho} {m : Mu} {tl : TA} {b : Addr} {n : Nat} {c : Int} {E : XK} (ha : EvA1 r m tl [.vol b, dn n]) (hb : Bag m b) (h0 : 0 < n) (h1 : n < 1000000000) : EvT r m (tTest (tOp rEq (tCall spDraw [] E tl) (tC (.int c)))) fun b' m' => ∃ k : Nat, b' = decide ((k : Int) = c) ∧ k < n ∧ To b m m' :=
  evt_test (ev_opC (R1 := fun d m' => ∃ k, d = dn k ∧ k < n ∧ To b m m') (ev_draw ha hb h0 h1 fun k m2 hk ht => ⟨k, rfl, hk, ht⟩) (fun _ _ _ => ev_int) fun d1 m1 q => by
    obtain ⟨k, rfl, hk, ht⟩ := q
    exact op_mono (o_eq rfl) fun d m' e => ⟨_, e.1, k, rfl, hk, by rw [e.2]; exact ht⟩)
theorem evt_drawGt {r : Rho} {m : Mu} {tl : TA} {b : Addr} {n : Nat} {c : Int} {E : XK} (ha : EvA1 r m tl [.vol b, dn n]) (hb : Bag m b) (h0 : 0 < n) (h1 : n < 1000000000) : EvT r m (tTest (tOp rGtI (tCall spDraw [] E tl) (tC (.int c)))) fun b' m' => ∃ k : Nat, b' = decide (c < (k : Int)) ∧ k < n ∧ To b m m' :=
  evt_test (ev_opC (R1 := fun d m' => ∃ k, d = dn k ∧ k < n ∧ To b m m') (ev_draw ha hb h0 h1 fun k m2 hk ht => ⟨k, rfl, hk, ht⟩) (fun _ _ _ => ev_int) fun d1 m1 q => by
    obtain ⟨k, rfl, hk, ht⟩ := q
    exact op_mono o_gt fun d m' e => ⟨_, e.1, k, rfl, hk, by rw [e.2]; exact ht⟩)
structure AWeb where
  (b : Addr) (n : Nat)
abbrev spWeb : Sp := spT (α := AWeb) (fun a => [.vol a.b, dn a.n]) (fun a m => Bag m a.b ∧ 3 ≤ a.n ∧ a.n ≤ 5) fun a m d m' => ∃ w, d = dW w ∧ WebOk w ∧ To a.b m m'
theorem tiesN_ok {n : Nat} {t : Tie} (h : t ∈ tiesN n) : t.1 < t.2 ∧ t.2 < n := by
  unfold tiesN tieRow at h
  obtain ⟨a, ha, h⟩ := List.mem_flatMap.mp h
  obtain ⟨k, hk, rfl⟩ := List.mem_map.mp h
  have := List.mem_range.mp hk
  constructor
  · show a < a + 1 + k; omega
  · show a + 1 + k < n; omega
theorem tiesN_len {n : Nat} (hn : n ≤ 5) : (tiesN n).length ≤ 10 := by
  have : n = 0 ∨ n = 1 ∨ n = 2 ∨ n = 3 ∨ n = 4 ∨ n = 5 := by omega
  rcases this with rfl | rfl | rfl | rfl | rfl | rfl <;> decide
theorem b_web {K : PySem.W.Frag} {P : Program} {w : World} {b : Addr} {n : Nat} {m : Mu} (h : Bag m b ∧ 3 ≤ n ∧ n ≤ 5) {A : List Anc} :
    Wp A (start0 9 [.vol b, dn n]) m (t__law_web K P w spMoved spTurned spDraw spTies) (PFT (fun d m' => ∃ w, d = dW w ∧ WebOk w ∧ To b m m') m) := by
  obtain ⟨hb, n3, n5⟩ := h
  unfold t__law_web
  -- many
  refine q_asg (R := fun d m1 => ∃ k, d = dn (2 + k) ∧ k < n - 1 ∧ To b m m1) (ev_op (R1 := Is (.int 2) m) (R2 := fun _ d m1 => ∃ k, d = dn k ∧ k < n - 1 ∧ To b m m1) (by walk_at "e") (fun d1 m1 q => by
    obtain ⟨rfl, rfl⟩ := q
    exact ev_draw (n := n - 1) (eva_cons1 (by walk_at "e") (eva_cons1 (by walk_at "c") eva_nil)) hb (by omega) (by omega) fun k m2 hk ht => ⟨k, rfl, hk, ht⟩) fun d1 m1 d2 m2 q1 q2 => by
    obtain ⟨rfl, rfl⟩ := q1
    obtain ⟨k, rfl, hk, ht⟩ := q2
    exact fun z H x y v hx hy Q q => o_add (i := 2) (j := (k : Int)) z H x y v hx hy Q fun v' H2 d m' s a e => q v' H2 d m' s a ⟨k, by rw [e.1]; rfl, hk, by rw [e.2]; exact ht⟩) fun d m1 q => ?_
  obtain ⟨k, rfl, hk, ht1⟩ := q
  generalize hN : 2 + k = N
  have N2 : 2 ≤ N := by omega
  have N5 : N ≤ 5 := by omega
  -- pairs
  refine q_asg (R := fun d m2 => ∃ (l : Addr) (ps : List Tie), d = .vol l ∧ ¬ dm m l ∧ l ≠ b ∧ m2 l = some (.lst (ps.map dp)) ∧ (∀ t ∈ ps, t.1 < N ∧ t.2 < N) ∧ ps.length ≤ 5 ∧ ToX b m m2) (ev_lc (src_rng2' (i := 1) (j := N) (eva_cons1 (by walk_at "e") (eva_cons1 (by walk_at "e") eva_nil)) (by omega) (by omega)) fun ds m2 q => ?_) fun d m2 q => ?_
  · obtain ⟨rfl, rfl⟩ := q
    refine ⟨fun i acc m' => ∃ ps : List Tie, acc = ps.map dp ∧ (∀ t ∈ ps, t.1 < N ∧ t.2 < N) ∧ ps.length = i ∧ To b m m', ⟨[], rfl, by simp, rfl, ht1⟩, fun _ _ _ _ => trivial, fun i d acc m' hd h => ?_, by rw [List.length_map, List.length_range, sizeLine_eq]; omega, .inr fun acc m' h l hl hl2 => ?_⟩
    · obtain ⟨ps, rfl, hp, hlen, ht⟩ := h
      rw [List.getElem?_map] at hd
      obtain ⟨k0, hk0, rfl⟩ := Option.map_eq_some_iff.mp hd
      obtain ⟨h1, h2⟩ := List.getElem?_eq_some_iff.mp hk0
      rw [List.length_range] at h1
      rw [List.getElem_range] at h2
      subst h2
      refine ⟨_, [6], by simp, gd_name, evt_mono evt_yes fun b0 m3 q => ?_⟩
      obtain ⟨rfl, rfl⟩ := q
      rw [if_pos rfl]
      refine ev_tup (R1 := fun ds m4 => ∃ q, ds = [dn q, dn (1 + i)] ∧ q < N ∧ To b m m4) (eva_cons (R1 := fun d m4 => ∃ q, d = dn q ∧ q < N ∧ To b m m4) (ev_draw (n := 1 + i) (eva_cons1 (by walk_at "e") (eva_cons1 (by walk_at "e") eva_nil)) ht.1 (by omega) (by omega) fun q m4 hq h4 => ⟨q, rfl, by omega, ht.trans h4⟩) fun d m4 q => ?_) fun ds m4 q => ?_
      · obtain ⟨q, rfl, hq, h4⟩ := q
        exact eva_mono (R := IsL [dn (1 + i)] m4) (eva_cons1 (by walk_at "e") eva_nil) fun ds m5 e => by obtain ⟨rfl, rfl⟩ := e; exact ⟨q, rfl, hq, h4⟩
      · obtain ⟨q, rfl, hq, h4⟩ := q
        exact ⟨by show 2 ≤ sizeLine; decide, ps ++ [(q, 1 + i)], by simp, fun t h => by
          rcases List.mem_append.mp h with h | h
          · exact hp t h
          · obtain rfl := List.mem_singleton.mp h
            exact ⟨hq, by show 1 + i < N; omega⟩, by simp [hlen], h4⟩
    · obtain ⟨ps, rfl, hp, hlen, ht⟩ := h
      have lm : ¬ dm m l := fun q => hl (ht.dm q)
      rw [List.length_map, List.length_range] at hlen
      exact ⟨l, ps, rfl, lm, fun e => lm (e ▸ hb.dm), pt_same, hp, by omega, ht.x.put (fun e => lm (e ▸ hb.dm)) lm⟩
  obtain ⟨l, ps, rfl, lm, lb, hm2, hps, hpl, ht2⟩ := q
  -- more pairs
  refine wp_seq (wp_for (src_rng1 (R := fun ds m3 => ∃ q, ds = [dn q] ∧ q < 4 ∧ To b m2 m3) (S := fun ds m3 => ∃ q, ds = rngD 0 q ∧ q < 4 ∧ To b m2 m3) (eva_cons (R1 := fun d m3 => ∃ q, d = dn q ∧ q < 4 ∧ To b m2 m3) (ev_draw (n := 4) (eva_cons1 (by walk_at "e") (eva_cons1 (by walk_at "e") eva_nil)) ht2.1 (by omega) (by omega) fun q m3 hq h3 => ⟨q, rfl, hq, h3⟩) fun d m3 q => ?_) fun ds m3 q => ?_) fun ds m3 q => ?_)
  · obtain ⟨q, rfl, hq, h3⟩ := q
    exact eva_mono eva_nil fun ds m5 e => by obtain ⟨rfl, rfl⟩ := e; exact ⟨q, rfl, hq, h3⟩
  · obtain ⟨q, rfl, hq, h3⟩ := q
    exact ⟨q, rfl, by omega, by omega, q, by rw [Int.toNat_natCast], hq, h3⟩
  obtain ⟨q, rfl, hq, h3⟩ := q
  refine ⟨fun i r' m' => ∃ (ps : List Tie) (o : Option D), r' = [some (.vol b), some (dn n), some (dn N), some (.vol l), o, none, none, none, none] ∧ m' l = some (.lst (ps.map dp)) ∧ (∀ t ∈ ps, t.1 < N ∧ t.2 < N) ∧ ps.length ≤ 5 + i ∧ ToX b m m', ⟨ps, none, rfl, by rw [h3.2 l lb]; exact hm2, hps, hpl, ht2.to h3⟩, fun _ _ _ _ => trivial, fun B i d r' m' _ hd h => ?_, fun r' m' h => ?_⟩
  · obtain ⟨ps, o, rfl, hm', hp, hlen, ht⟩ := h
    obtain ⟨hi, rfl⟩ := rngD_get hd
    refine ⟨_, _, gd_name, wp_drop (ev_append (R1 := fun d m4 => ∃ t : Tie, d = dp t ∧ t.1 < N ∧ t.2 < N ∧ To b m' m4) (by walk_at "e") hm' (ev_tup (R1 := fun ds m4 => ∃ t : Tie, ds = [dn t.1, dn t.2] ∧ t.1 < N ∧ t.2 < N ∧ To b m' m4) (eva_cons (R1 := fun d m4 => ∃ q, d = dn q ∧ q < N ∧ To b m' m4) (ev_draw (n := N) (eva_cons1 (by walk_at "e") (eva_cons1 (by walk_at "e") eva_nil)) ht.1 (by omega) (by omega) fun q m4 hq h4 => ⟨q, rfl, hq, h4⟩) fun d m4 q => ?_) fun ds m4 q => ?_) fun d m4 q => ?_)⟩
    · obtain ⟨q1, rfl, hq1, h4⟩ := q
      refine eva_cons (R1 := fun d m5 => ∃ q, d = dn q ∧ q < N ∧ To b m' m5) (ev_draw (n := N) (eva_cons1 (by walk_at "e") (eva_cons1 (by walk_at "e") eva_nil)) h4.1 (by omega) (by omega) fun q m5 hq h5 => ⟨q, rfl, hq, h4.trans h5⟩) fun d m5 q => ?_
      obtain ⟨q2, rfl, hq2, h5⟩ := q
      exact eva_mono eva_nil fun ds m6 e => by obtain ⟨rfl, rfl⟩ := e; exact ⟨(q1, q2), rfl, hq1, hq2, h5⟩
    · obtain ⟨t, rfl, e1, e2, h4⟩ := q
      exact ⟨by show 2 ≤ sizeLine; decide, t, rfl, e1, e2, h4⟩
    · obtain ⟨t, rfl, e1, e2, h4⟩ := q
      refine ⟨_, by rw [h4.2 l lb]; exact hm', by rw [List.length_map]; omega, ps ++ [t], _, rfl, by rw [pt_same]; simp, fun u hu => ?_, by simp; omega, (ht.to h4).put lb lm⟩
      rcases List.mem_append.mp hu with hu | hu
      · exact hp u hu
      · obtain rfl := List.mem_singleton.mp hu; exact ⟨e1, e2⟩
  obtain ⟨ps, o, rfl, hm', hp, hlen, ht⟩ := h
  rw [rngD_len] at hlen
  -- all ties?
  refine q_cut (fun r' m'' => ∃ (ps : List Tie) (d3 : D) (o : Option D), r' = [some (.vol b), some (dn n), some (dn N), some d3, o, none, none, none, none] ∧ LV m'' d3 (ps.map dp) ∧ (∀ t ∈ ps, t.1 < N ∧ t.2 < N) ∧ ps.length ≤ 10 ∧ ToX b m m'') (wp_ifs (evt_drawEq (n := 4) (eva_cons1 (by walk_at "e") (eva_cons1 (by walk_at "e") eva_nil)) ht.1 (by omega) (by omega)) (fun m4 h => wp_asg ?_) fun m4 h => wp_next ?_) fun r' m5 h => ?_
  · obtain ⟨_, _, _, h4⟩ := h
    refine ev_callT1 (ATies.mk N) (eva_cons1 (by walk_at "e") eva_nil) (show N ≤ 100 by omega) fun d m5 e => ?_
    obtain ⟨rfl, rfl⟩ := e
    exact ⟨tiesN N, _, o, rfl, .inl rfl, fun t h => by have := tiesN_ok h; omega, tiesN_len N5, ht.to h4⟩
  · obtain ⟨_, _, _, h4⟩ := h
    exact ⟨ps, _, o, rfl, .inr ⟨l, rfl, by rw [h4.2 l lb]; exact hm'⟩, hp, by omega, ht.to h4⟩
  obtain ⟨ps, d3, o, rfl, hv, hp, hlen, ht⟩ := h
  -- rising, none twice
  refine q_asg (R := fun d m6 => ∃ M : List Tie, d = .lst (M.map dp) ∧ M.Pairwise (fun a b => cd a < cd b) ∧ (∀ t ∈ M, t.1 < t.2 ∧ t.2 < N) ∧ M.length < 64 ∧ m6 = m5) (ev_sortSet (L := (ps.filter fun t => !decide ((t.1 : Int) = t.2)).map fun t => nrm t.1 t.2) (ev_to (ev_lcT ps dp (fun t => dp (nrm t.1 t.2)) (fun t => !decide ((t.1 : Int) = t.2)) (src_lv (by walk_at "e") hv) hv (fun t ht => ⟨_, _, ?_, gd_tup (gdl_cons gd_name (gdl_cons gd_name gdl_nil)), evt_test1 (by walk_at "e"), fun _ => ?_⟩) (by omega)) (by rw [List.map_map]; rfl)) ?_ ?_ fun M hM hmem hl => ⟨M, rfl, hM, ?_, hl, rfl⟩) fun d m6 q => ?_
  · simp
  · rw [dp_nrm]; walk_at "e"
  · rw [List.length_map]; exact Nat.lt_of_le_of_lt (List.length_filter_le _ _) (by omega)
  · intro t ht
    obtain ⟨u, hu, rfl⟩ := List.mem_map.mp ht
    have := hp u ((List.mem_filter.mp hu).1)
    unfold nrm
    constructor
    · show min _ _ < 64; omega
    · show max _ _ < 64; omega
  · intro t ht
    obtain ⟨u, hu, rfl⟩ := List.mem_map.mp ((hmem t).mp ht)
    have h1 := hp u ((List.mem_filter.mp hu).1)
    have h2 := (List.mem_filter.mp hu).2
    simp at h2
    unfold nrm
    constructor
    · show min _ _ < max _ _; omega
    · show max _ _ < N; omega
  obtain ⟨M, rfl, hM, hMt, hMl, rfl⟩ := q
  have wok : WebOk (N, M) := ⟨N2, N5, hMt, hM, hMl⟩
  refine wp_ret (ev_callT (R1 := fun ds m7 => ∃ L, ds = [dW (N, M), dL L] ∧ OrdOk L N ∧ To b m6 m7) (eva_cons (R1 := Is (dW (N, M)) m6) (ev_tup1 (eva_cons1 (by walk_at "e") (eva_cons1 (ev_tupleL (by walk_at "e")) eva_nil))) fun d m7 e => ?_) fun ds m7 q => ?_)
  · obtain ⟨rfl, rfl⟩ := e
    refine eva_cons (R1 := fun d m8 => ∃ L, d = dL L ∧ OrdOk L N ∧ To b m7 m8) (ev_turned (n := N) (eva_cons1 (by walk_at "e") (eva_cons1 (by walk_at "e") eva_nil)) ht.1 (by omega) fun L m8 hL _ h8 => ⟨L, rfl, hL, h8⟩) fun d m8 q => ?_
    obtain ⟨L, rfl, hL, h8⟩ := q
    exact eva_mono eva_nil fun ds m9 e => by obtain ⟨rfl, rfl⟩ := e; exact ⟨L, rfl, hL, h8⟩
  · obtain ⟨L, rfl, hL, h7⟩ := q
    refine ⟨AMoved.mk (N, M) L (dL L), rfl, wok.pm hL (.inr rfl), fun d m8 e => ?_⟩
    obtain ⟨rfl, rfl⟩ := e
    show FinT _ _ _ _
    exact fin_to (ht.to h7) fun m' h => ⟨_, rfl, wok.mv hL, h⟩
end Hue
namespace Hue
open PySem PySem.Spec PyProof.Rows L2 DL
/-- the evaluation of an expression that reckons alone -/
local macro_rules | `(tactic| walk_at "e") => `(tactic| first
  | (with_reducible apply ev_var); rfl
  | (with_reducible exact ev_int)
  | ((with_reducible refine ev_to ev_int ?_); rfl)
  | (with_reducible exact ev_bl)
  | (with_reducible exact ev_str)
  | (with_reducible exact ev_non)
  | (with_reducible exact eva_nil)
  | (with_reducible apply eva_cons1) <;> walk_at "e"
  | (with_reducible apply ev_tup1) <;> walk_at "e"
  | (with_reducible apply ev_add) <;> walk_at "e"
  | (with_reducible apply ev_sub) <;> walk_at "e"
  | (with_reducible apply ev_ixT) <;> walk_at "e"
  | (with_reducible apply ev_ixL) <;> (walk_at "e"; done)
  | (with_reducible apply ev_ixV) <;> walk_at "e"
  | (with_reducible apply ev_lt) <;> walk_at "e"
  | (with_reducible apply ev_le) <;> walk_at "e"
  | (with_reducible apply ev_gt) <;> walk_at "e"
  | (with_reducible apply ev_ge) <;> walk_at "e"
  | (with_reducible apply ev_eqI) <;> (walk_at "e"; done)
  | (with_reducible apply ev_neI) <;> (walk_at "e"; done)
  | (with_reducible apply ev_isN) <;> walk_at "e"
  | (with_reducible apply ev_notN) <;> walk_at "e"
  | (with_reducible apply ev_neg) <;> walk_at "e"
  | (with_reducible apply ev_min2) <;> walk_at "e"
  | (with_reducible apply ev_max2) <;> walk_at "e"
  | (with_reducible apply ev_lenT) <;> (walk_at "e"; done)
  | (with_reducible apply ev_lenL) <;> (walk_at "e"; done)
  | (with_reducible apply ev_lenV) <;> walk_at "e"
  | (with_reducible apply ev_lenD) <;> walk_at "e"
  | (with_reducible apply ev_lst1) <;> walk_at "e"
  | (with_reducible assumption)
  | (with_reducible rfl)
  | rfl
  | exact Nat.le_of_ble_eq_true rfl)
local macro_rules | `(tactic| walk_at "t") => `(tactic| first
  | (with_reducible apply evt_test1) <;> walk_at "e"
  | (with_reducible apply evt_B1) <;> walk_at "e"
  | (with_reducible apply evt_not1) <;> walk_at "t")
/-- the same, brought to the wanted form -/
local macro_rules | `(tactic| walk_at "c") => `(tactic| (refine ev_to (by walk_at "e") ?_; first | rfl | (simp only [D.int.injEq]; omega)))
theorem plL_of : ∀ {L : List D}, (∀ d ∈ L, pl d = true) → plL L = true
  | [], _ => rfl
  | d :: L, h => by
    unfold plL
    rw [h d List.mem_cons_self, plL_of fun e he => h e (List.mem_cons_of_mem _ he)]; rfl
theorem dptL_of {n : Nat} : ∀ {L : List D}, (∀ d ∈ L, dpt d ≤ n) → dptL L ≤ n
  | [], _ => Nat.zero_le _
  | d :: L, h => by
    unfold dptL
    have := h d List.mem_cons_self
    have := dptL_of fun e he => h e (List.mem_cons_of_mem _ he)
    omega
theorem ok_tup {L : List D} (n : Nat) (h : ∀ d ∈ L, pl d = true ∧ dpt d ≤ n) : pl (.tup L) = true ∧ dpt (.tup L) ≤ n + 1 := by
  constructor
  · unfold pl; exact plL_of fun d hd => (h d hd).1
  · unfold dpt; exact Nat.succ_le_succ (dptL_of fun d hd => (h d hd).2)
theorem ok_lst {L : List D} (n : Nat) (h : ∀ d ∈ L, pl d = true ∧ dpt d ≤ n) : pl (.lst L) = true ∧ dpt (.lst L) ≤ n + 1 := by
  constructor
  · unfold pl; exact plL_of fun d hd => (h d hd).1
  · unfold dpt; exact Nat.succ_le_succ (dptL_of fun d hd => (h d hd).2)
theorem okD_of {d : D} {n : Nat} (h : pl d = true ∧ dpt d ≤ n) (hn : n ≤ 64) : okD d = true := by
  unfold okD
  rw [h.1, decide_eq_true (Nat.le_trans h.2 hn)]; rfl
theorem ok_dn (n : Nat) : pl (dn n) = true ∧ dpt (dn n) ≤ 0 := ⟨rfl, Nat.le_refl _⟩
theorem ok_map {α : Type} {f : α → D} {n : Nat} {L : List α} (h : ∀ a, pl (f a) = true ∧ dpt (f a) ≤ n) : ∀ d ∈ L.map f, pl d = true ∧ dpt d ≤ n := fun d hd => by
  obtain ⟨a, _, rfl⟩ := List.mem_map.mp hd
  exact h a
theorem ok_dp (t : Tie) : pl (dp t) = true ∧ dpt (dp t) ≤ 1 := ⟨rfl, by show max 0 (max 0 0) + 1 ≤ 1; decide⟩
theorem ok_dT (L : List Nat) : pl (dT L) = true ∧ dpt (dT L) ≤ 1 := ok_tup 0 (ok_map ok_dn)
theorem ok_dW (w : Web) : pl (dW w) = true ∧ dpt (dW w) ≤ 3 := by
  have h1 := ok_tup 1 (ok_map (L := w.2) ok_dp)
  refine ok_tup 2 fun d hd => ?_
  simp only [List.mem_cons, List.not_mem_nil, or_false] at hd
  rcases hd with rfl | rfl
  · exact ⟨rfl, by show 0 ≤ 2; omega⟩
  · exact h1
theorem okD_dW (w : Web) : okD (dW w) = true := okD_of (ok_dW w) (by decide)
theorem okD_dT (L : List Nat) : okD (dT L) = true := okD_of (ok_dT L) (by decide)
theorem okD_dp (t : Tie) : okD (dp t) = true := okD_of (ok_dp t) (by decide)
theorem okD_dps (L : List Tie) : okD (.tup (L.map dp)) = true := okD_of (ok_tup 1 (ok_map ok_dp)) (by decide)
theorem okD_Ws (L : List Web) : okD (.lst (L.map dW)) = true := okD_of (ok_lst 3 (ok_map ok_dW)) (by decide)
theorem okD_Ts (L : List (List Nat)) : okD (.lst (L.map dT)) = true := okD_of (ok_lst 1 (ok_map ok_dT)) (by decide)
theorem okD_dL (L : List Nat) : okD (.lst (L.map dn)) = true := okD_of (ok_lst 0 (ok_map ok_dn)) (by decide)
structure DemOk (ws : List Web) : Prop where
  w : ∀ w ∈ ws, WebOk w
  lo : 1 ≤ ws.length
  hi : ws.length ≤ 4
structure ADem where
  (b : Addr) (c n : Nat)
abbrev spDem : Sp := spT (α := ADem) (fun a => [.vol a.b, dn a.c, dn a.n]) (fun a m => Bag m a.b ∧ (1 ≤ a.c ∧ a.c ≤ 4) ∧ 3 ≤ a.n ∧ a.n ≤ 5) fun a m d m' => ∃ ws, d = dDm ws ∧ DemOk ws ∧ To a.b m m'
theorem isEmpty_map {α β : Type} {f : α → β} {L : List α} : (L.map f).isEmpty = L.isEmpty := by cases L <;> rfl
theorem b_dem {K : PySem.W.Frag} {b : Addr} {c n : Nat} {m : Mu} (h : Bag m b ∧ (1 ≤ c ∧ c ≤ 4) ∧ 3 ≤ n ∧ n ≤ 5) {A : List Anc} :
    Wp A (start0 7 [.vol b, dn c, dn n]) m (t__law_demand K spDraw spMoved spTurned spWeb) (PFT (fun d m' => ∃ ws, d = dDm ws ∧ DemOk ws ∧ To b m m') m) := by
  obtain ⟨hb, ⟨c1, c4⟩, hn⟩ := h
  unfold t__law_demand
  refine q_asgV (ev_lstV eva_nil) fun l hl => ?_
  have lb : l ≠ b := fun e => hl (e ▸ hb.dm)
  refine q_forT (List.range c) (fun (k : Nat) => D.int (k : Int)) (fun i r' m' => ∃ (ws : List Web) (o o1 o2 : Option D), r' = [some (.vol b), some (dn c), some (dn n), some (.vol l), o, o1, o2] ∧ m' l = some (.lst (ws.map dW)) ∧ (∀ w ∈ ws, WebOk w) ∧ ws.length = i ∧ ToX b m m') (src_rngN (n := c) (by walk_at "e") (by omega)) ⟨[], none, none, none, rfl, pt_same, by simp, rfl, (ToX.refl hb).put lb hl⟩ (fun _ _ _ _ => trivial) (fun B i a r' m' _ ha hj => ?_) fun r' m' hj => ?_
  · obtain ⟨ws, o, o1, o2, rfl, hm', hw, hlen, ht⟩ := hj
    have hi : i < c := by have := (List.getElem?_eq_some_iff.mp ha).1; rw [List.length_range] at this; exact this
    refine ⟨_, _, gd_name, q_asg (R := fun d m1 => ∃ w, d = dW w ∧ WebOk w ∧ To b m' m1) (ev_callT1 (AWeb.mk b n) (by walk_at "e") ⟨ht.1, hn⟩ fun _ _ e => e) fun d m1 q => ?_⟩
    obtain ⟨w, rfl, hwk, h1⟩ := q
    have hm1 : m1 l = some (.lst (ws.map dW)) := by rw [h1.2 l lb]; exact hm'
    have ht1 := ht.to h1
    refine q_cut (fun r2 m2 => ∃ (w : Web) (o o2 : Option D), r2 = [some (.vol b), some (dn c), some (dn n), some (.vol l), o, some (dW w), o2] ∧ WebOk w ∧ m2 l = some (.lst (ws.map dW)) ∧ ToX b m m2) (wp_ifs (Rb := fun b' m2 => To b m1 m2 ∧ (b' = true → ws ≠ [])) (evt_and (R1 := IsB (!ws.isEmpty) m1) (evt_test1 (ev_to (lv_ne0 (.inr ⟨l, rfl, hm1⟩) (by walk_at "e") (okD_Ws ws)) (by rw [isEmpty_map]))) (fun m2 q => ?_) fun m2 q => ?_) (fun m2 q => ?_) fun m2 q => wp_next ?_) fun r2 m2 q => ?_
    · obtain ⟨e, rfl⟩ := q
      refine evt_mono (evt_drawEq (n := 3) (eva_cons1 (by walk_at "e") (eva_cons1 (by walk_at "e") eva_nil)) ht1.1 (by omega) (by omega)) fun b' m3 q => ?_
      obtain ⟨_, _, _, h3⟩ := q
      exact ⟨h3, fun _ e' => by rw [e'] at e; cases e⟩
    · obtain ⟨_, rfl⟩ := q
      exact ⟨To.refl ht1.1, fun e => by cases e⟩
    · obtain ⟨h2, hne⟩ := q
      have hne := hne rfl
      have hm2 : m2 l = some (.lst (ws.map dW)) := by rw [h2.2 l lb]; exact hm1
      have ht2 := ht1.to h2
      have wpos : 0 < ws.length := List.length_pos_iff.mpr hne
      refine q_asg (R := fun d m3 => ∃ v, d = dW v ∧ v ∈ ws ∧ To b m2 m3) (ev_op (R1 := Is (.vol l) m2) (R2 := fun _ d m3 => ∃ k, d = dn k ∧ k < ws.length ∧ To b m2 m3) (by walk_at "e") (fun d1 m3 q => by
        obtain ⟨rfl, rfl⟩ := q
        exact ev_draw (n := ws.length) (eva_cons1 (by walk_at "e") (eva_cons1 (ev_to (ev_lenV (by walk_at "e") hm2) (by rw [List.length_map])) eva_nil)) ht2.1 wpos (by omega) fun k m4 hk h4 => ⟨k, rfl, hk, h4⟩) fun d1 m3 d2 m4 q1 q2 => ?_) fun d m3 q => ?_
      · obtain ⟨rfl, rfl⟩ := q1
        obtain ⟨k, rfl, hk, h4⟩ := q2
        have hm4 : m4 l = some (.lst (ws.map dW)) := by rw [h4.2 l lb]; exact hm2
        exact op_mono (o_ixV hm4 (atI_n (v := dW ws[k]) (by rw [List.getElem?_map, List.getElem?_eq_getElem hk]; rfl))) fun d m5 e => ⟨_, e.1, List.getElem_mem hk, by rw [e.2]; exact h4⟩
      · obtain ⟨v, rfl, hv, h3⟩ := q
        have vok := hw v hv
        have ht3 := ht2.to h3
        refine wp_asg (ev_callT (R1 := fun ds m4 => ∃ L, ds = [dW v, dL L] ∧ OrdOk L v.1 ∧ To b m3 m4) (eva_cons (R1 := Is (dW v) m3) (by walk_at "e") fun d m4 e => ?_) fun ds m4 q => ?_)
        · obtain ⟨rfl, rfl⟩ := e
          refine eva_cons (R1 := fun d m5 => ∃ L, d = dL L ∧ OrdOk L v.1 ∧ To b m4 m5) (ev_turned (n := v.1) (eva_cons1 (by walk_at "e") (eva_cons1 (by walk_at "e") eva_nil)) ht3.1 (by have := vok.hi; omega) fun L m5 hL _ h5 => ⟨L, rfl, hL, h5⟩) fun d m5 q => ?_
          obtain ⟨L, rfl, hL, h5⟩ := q
          exact eva_mono eva_nil fun ds m6 e => by obtain ⟨rfl, rfl⟩ := e; exact ⟨L, rfl, hL, h5⟩
        · obtain ⟨L, rfl, hL, h4⟩ := q
          refine ⟨AMoved.mk v L (dL L), rfl, vok.pm hL (.inr rfl), fun d m5 e => ?_⟩
          obtain ⟨rfl, rfl⟩ := e
          exact ⟨mvW L v, _, _, rfl, vok.mv hL, by rw [h4.2 l lb, h3.2 l lb]; exact hm2, ht3.to h4⟩
    · obtain ⟨h2, _⟩ := q
      exact ⟨w, _, _, rfl, hwk, by rw [h2.2 l lb]; exact hm1, ht1.to h2⟩
    · obtain ⟨w2, o3, o4, rfl, wok2, hm2, ht2⟩ := q
      refine wp_drop (ev_mono (ev_append1 (d := dW w2) (by walk_at "e") hm2 (by walk_at "e") (by rw [List.length_map]; omega)) fun d m3 e => ?_)
      obtain ⟨rfl, rfl⟩ := e
      refine ⟨ws ++ [w2], _, _, _, rfl, by rw [pt_same]; simp, fun u hu => ?_, by simp [hlen], ht2.put lb hl⟩
      rcases List.mem_append.mp hu with hu | hu
      · exact hw u hu
      · obtain rfl := List.mem_singleton.mp hu; exact wok2
  · obtain ⟨ws, o, o1, o2, rfl, hm', hw, hlen, ht⟩ := hj
    rw [List.length_range] at hlen
    refine wp_ret (ev_mono (ev_tupleV (by walk_at "e") hm') fun d m1 e => ?_)
    obtain ⟨rfl, rfl⟩ := e
    show FinT _ _ _ _
    exact fin_to ht fun m' h => ⟨ws, rfl, ⟨hw, by omega, by omega⟩, h⟩
end Hue
namespace Hue
open PySem PySem.Spec PyProof.Rows L2 DL
/-- the evaluation of an expression that reckons alone -/
local macro_rules | `(tactic| walk_at "e") => `(tactic| first
  | (with_reducible apply ev_var); rfl
  | (with_reducible exact ev_int)
  | ((with_reducible refine ev_to ev_int ?_); rfl)
  | (with_reducible exact ev_bl)
  | (with_reducible exact ev_str)
  | (with_reducible exact ev_non)
  | (with_reducible exact eva_nil)
  | (with_reducible apply eva_cons1) <;> walk_at "e"
  | (with_reducible apply ev_tup1) <;> walk_at "e"
  | (with_reducible apply ev_add) <;> walk_at "e"
  | (with_reducible apply ev_sub) <;> walk_at "e"
  | (with_reducible apply ev_ixT) <;> walk_at "e"
  | (with_reducible apply ev_ixL) <;> (walk_at "e"; done)
  | (with_reducible apply ev_ixV) <;> walk_at "e"
  | (with_reducible apply ev_lt) <;> walk_at "e"
  | (with_reducible apply ev_le) <;> walk_at "e"
  | (with_reducible apply ev_gt) <;> walk_at "e"
  | (with_reducible apply ev_ge) <;> walk_at "e"
  | (with_reducible apply ev_eqI) <;> (walk_at "e"; done)
  | (with_reducible apply ev_neI) <;> (walk_at "e"; done)
  | (with_reducible apply ev_isN) <;> walk_at "e"
  | (with_reducible apply ev_notN) <;> walk_at "e"
  | (with_reducible apply ev_neg) <;> walk_at "e"
  | (with_reducible apply ev_min2) <;> walk_at "e"
  | (with_reducible apply ev_max2) <;> walk_at "e"
  | (with_reducible apply ev_lenT) <;> (walk_at "e"; done)
  | (with_reducible apply ev_lenL) <;> (walk_at "e"; done)
  | (with_reducible apply ev_lenV) <;> walk_at "e"
  | (with_reducible apply ev_lenD) <;> walk_at "e"
  | (with_reducible apply ev_lst1) <;> walk_at "e"
  | (with_reducible assumption)
  | (with_reducible rfl)
  | rfl
  | exact Nat.le_of_ble_eq_true rfl)
local macro_rules | `(tactic| walk_at "t") => `(tactic| first
  | (with_reducible apply evt_test1) <;> walk_at "e"
  | (with_reducible apply evt_B1) <;> walk_at "e"
  | (with_reducible apply evt_not1) <;> walk_at "t")
/-- the same, brought to the wanted form -/
local macro_rules | `(tactic| walk_at "c") => `(tactic| (refine ev_to (by walk_at "e") ?_; first | rfl | (simp only [D.int.injEq]; omega)))
def namedWs : List Web := [(2, [(0, 1)]), (3, [(0, 1), (1, 2)]), (3, [(0, 1), (0, 2), (1, 2)]), (4, [(0, 1), (1, 2), (2, 3)]), (4, [(0, 1), (0, 3), (1, 2), (2, 3)]), (4, [(0, 1), (0, 2), (0, 3)])]
def namedRows : List (List Nat) := [[1, 1], [1, 2], [1, 3], [1, 4], [1, 5], [3, 3], [3, 4], [1, 1, 1], [1, 1, 2], [1, 1, 1, 1], [0, 2, 1], [4]]
theorem named_ok : ∀ w ∈ namedWs, WebOk w := fun w hw => by
  simp only [namedWs, List.mem_cons, List.not_mem_nil, or_false] at hw
  rcases hw with rfl | rfl | rfl | rfl | rfl | rfl <;> exact ⟨by decide, by decide, by decide, by decide, by decide⟩
theorem named_row : ∀ L ∈ namedRows, (1 ≤ L.length ∧ L.length ≤ 4) ∧ ∀ i ∈ L, i < 6 := by decide
structure ANamed where
  (b : Addr)
abbrev spNamed : Sp := spT (α := ANamed) (fun a => [.vol a.b]) (fun a m => Bag m a.b) fun a m d m' => ∃ ws, d = dDm ws ∧ DemOk ws ∧ To a.b m m'
theorem b_named {K : PySem.W.Frag} {b : Addr} {m : Mu} (hb : Bag m b) {A : List Anc} :
    Wp A (start0 7 [.vol b]) m (t__law_named K spMoved spTurned spDraw) (PFT (fun d m' => ∃ ws, d = dDm ws ∧ DemOk ws ∧ To b m m') m) := by
  unfold t__law_named
  refine q_asg1 (d := .lst ((namedWs.take 4).map dW)) (by walk_at "c") ?_
  refine q_asg1 (d := .lst (namedWs.map dW)) (ev_to (ev_catL (ds := (namedWs.take 4).map dW) (es := (namedWs.drop 4).map dW) (.inl rfl) (.inl rfl) (by walk_at "e") (by walk_at "c") (by decide)) rfl) ?_
  refine q_asg1 (d := .lst (namedRows.map dT)) (by walk_at "c") ?_
  refine q_asg (R := fun d m1 => ∃ L, d = dT L ∧ L ∈ namedRows ∧ To b m m1) (ev_op (R1 := Is (.lst (namedRows.map dT)) m) (R2 := fun _ d m1 => ∃ k, d = dn k ∧ k < 12 ∧ To b m m1) (by walk_at "e") (fun d1 m1 q => by
    obtain ⟨rfl, rfl⟩ := q
    exact ev_draw (n := 12) (eva_cons1 (by walk_at "e") (eva_cons1 (by walk_at "e") eva_nil)) hb (by omega) (by omega) fun k m2 hk ht => ⟨k, rfl, hk, ht⟩) fun d1 m1 d2 m2 q1 q2 => ?_) fun d m1 q => ?_
  · obtain ⟨rfl, rfl⟩ := q1
    obtain ⟨k, rfl, hk, ht⟩ := q2
    exact op_mono (o_ixL (atI_n (v := dT namedRows[k]) (by rw [List.getElem?_map, List.getElem?_eq_getElem (by exact hk)]; rfl))) fun d m5 e => ⟨_, e.1, List.getElem_mem _, by rw [e.2]; exact ht⟩
  obtain ⟨L, rfl, hL, ht1⟩ := q
  obtain ⟨hl, hi⟩ := named_row L hL
  refine q_asg (R := fun d m2 => ∃ ws : List Web, d = .lst (ws.map dW) ∧ (∀ w ∈ ws, WebOk w) ∧ ws.length = L.length ∧ To b m m2) (ev_lcR (α := Nat) (S := fun ds m2 => ∃ M : List Nat, ds = M.map dn ∧ OrdOk M L.length ∧ To b m m2) (src_list (R := fun d m2 => ∃ M : List Nat, d = dL M ∧ OrdOk M L.length ∧ To b m m2) (ev_turned (n := L.length) (eva_cons1 (by walk_at "e") (eva_cons1 (ev_to (ev_lenT (by walk_at "e")) (by rw [List.length_map])) eva_nil)) ht1.1 (by omega) fun M m2 hM _ h2 => ⟨M, rfl, hM, ht1.trans h2⟩) fun d m2 q => ?_) fun ds m2 q => ?_) fun d m2 q => ?_
  · obtain ⟨M, rfl, hM, h2⟩ := q
    exact ⟨_, rfl, M, rfl, hM, h2⟩
  · obtain ⟨M, rfl, hM, h2⟩ := q
    have hwi : ∀ j ∈ M, L.getD j 0 < namedWs.length := fun j hj => hi _ (getD_mem (hM.lt j hj))
    refine ⟨M, dn, fun j => dW (namedWs.getD (L.getD j 0) (0, [])), fun _ => true, rfl, trivial, fun j hj => ⟨_, [5], by simp, gd_name, evt_yes, fun _ => ?_⟩, by rw [hM.len]; omega, ⟨M.map fun j => namedWs.getD (L.getD j 0) (0, []), ?_, ?_, by rw [List.length_map, hM.len], h2⟩⟩
    · refine ev_ixL (i := ((L.getD j 0 : Nat) : Int)) (by walk_at "e") (ev_ixT (i := ((j : Nat) : Int)) (by walk_at "e") (by walk_at "e") (dn_at (hM.lt j hj))) (atI_n ?_)
      rw [List.getElem?_map]
      show Option.map dW namedWs[L.getD j 0]? = some (dW (namedWs.getD (L.getD j 0) (0, [])))
      rw [List.getD_eq_getElem?_getD (l := namedWs), List.getElem?_eq_getElem (hwi j hj)]; rfl
    · rw [List.filter_eq_self.mpr (fun _ _ => rfl), List.map_map]; rfl
    · intro w hw
      obtain ⟨j, hj, rfl⟩ := List.mem_map.mp hw
      have e : namedWs.getD (L.getD j 0) (0, []) = namedWs[L.getD j 0]'(hwi j hj) := by rw [List.getD_eq_getElem?_getD, List.getElem?_eq_getElem (hwi j hj)]; rfl
      rw [e]
      exact named_ok _ (List.getElem_mem _)
  obtain ⟨ws, rfl, hw, hlen, ht2⟩ := q
  refine wp_ret (ev_tupleR (R1 := fun d m3 => ∃ vs : List Web, d = .lst (vs.map dW) ∧ (∀ w ∈ vs, WebOk w) ∧ vs.length = L.length ∧ To b m m3) (ev_lcI (fun m' => To b m m') ws dW dW (fun _ v => WebOk v) (src_list1 (by walk_at "e")) ht2 (fun _ _ => trivial) (fun w hw' m3 h3 => ⟨_, [6], by simp, gd_name, ?_⟩) (by omega) fun xs m3 hx hq h3 => ⟨xs, rfl, fun w hw' => ?_, by omega, h3⟩) fun d m3 q => ?_)
  · have wok := hw w hw'
    refine ev_callT (R1 := fun ds m4 => ∃ L, ds = [dW w, dL L] ∧ OrdOk L w.1 ∧ To b m3 m4) (eva_cons (R1 := Is (dW w) m3) (by walk_at "e") fun d m4 e => ?_) fun ds m4 q => ?_
    · obtain ⟨rfl, rfl⟩ := e
      refine eva_cons (R1 := fun d m5 => ∃ L, d = dL L ∧ OrdOk L w.1 ∧ To b m4 m5) (ev_turned (n := w.1) (eva_cons1 (by walk_at "e") (eva_cons1 (by walk_at "e") eva_nil)) h3.1 (by have := wok.hi; omega) fun L m5 hL _ h5 => ⟨L, rfl, hL, h5⟩) fun d m5 q => ?_
      obtain ⟨L, rfl, hL, h5⟩ := q
      exact eva_mono eva_nil fun ds m6 e => by obtain ⟨rfl, rfl⟩ := e; exact ⟨L, rfl, hL, h5⟩
    · obtain ⟨L, rfl, hL, h4⟩ := q
      refine ⟨AMoved.mk w L (dL L), rfl, wok.pm hL (.inr rfl), fun d m5 e => ?_⟩
      obtain ⟨rfl, rfl⟩ := e
      exact ⟨mvW L w, rfl, wok.mv hL, h3.trans h4⟩
  · obtain ⟨i, hi, e⟩ := List.mem_iff_getElem.mp hw'
    exact hq i (ws[i]'(by omega)) w (List.getElem?_eq_getElem _) (by rw [List.getElem?_eq_getElem hi, e])
  · obtain ⟨vs, rfl, hv, hvl, h3⟩ := q
    refine ⟨_, .inl rfl, ?_⟩
    show FinT _ _ _ _
    exact fin_to h3.x fun m' h => ⟨vs, rfl, ⟨hv, by omega, by omega⟩, h⟩
end Hue
namespace Hue
open PySem PySem.Spec PyProof.Rows L2 DL
/-- the evaluation of an expression that reckons alone -/
local macro_rules | `(tactic| walk_at "e") => `(tactic| first
  | (with_reducible apply ev_var); rfl
  | (with_reducible exact ev_int)
  | ((with_reducible refine ev_to ev_int ?_); rfl)
  | (with_reducible exact ev_bl)
  | (with_reducible exact ev_str)
  | (with_reducible exact ev_non)
  | (with_reducible exact eva_nil)
  | (with_reducible apply eva_cons1) <;> walk_at "e"
  | (with_reducible apply ev_tup1) <;> walk_at "e"
  | (with_reducible apply ev_add) <;> walk_at "e"
  | (with_reducible apply ev_sub) <;> walk_at "e"
  | (with_reducible apply ev_ixT) <;> walk_at "e"
  | (with_reducible apply ev_ixL) <;> (walk_at "e"; done)
  | (with_reducible apply ev_ixV) <;> walk_at "e"
  | (with_reducible apply ev_lt) <;> walk_at "e"
  | (with_reducible apply ev_le) <;> walk_at "e"
  | (with_reducible apply ev_gt) <;> walk_at "e"
  | (with_reducible apply ev_ge) <;> walk_at "e"
  | (with_reducible apply ev_eqI) <;> (walk_at "e"; done)
  | (with_reducible apply ev_neI) <;> (walk_at "e"; done)
  | (with_reducible apply ev_isN) <;> walk_at "e"
  | (with_reducible apply ev_notN) <;> walk_at "e"
  | (with_reducible apply ev_neg) <;> walk_at "e"
  | (with_reducible apply ev_min2) <;> walk_at "e"
  | (with_reducible apply ev_max2) <;> walk_at "e"
  | (with_reducible apply ev_lenT) <;> (walk_at "e"; done)
  | (with_reducible apply ev_lenL) <;> (walk_at "e"; done)
  | (with_reducible apply ev_lenV) <;> walk_at "e"
  | (with_reducible apply ev_lenD) <;> walk_at "e"
  | (with_reducible apply ev_lst1) <;> walk_at "e"
  | (with_reducible assumption)
  | (with_reducible rfl)
  | rfl
  | exact Nat.le_of_ble_eq_true rfl)
local macro_rules | `(tactic| walk_at "t") => `(tactic| first
  | (with_reducible apply evt_test1) <;> walk_at "e"
  | (with_reducible apply evt_B1) <;> walk_at "e"
  | (with_reducible apply evt_not1) <;> walk_at "t")
/-- the same, brought to the wanted form -/
local macro_rules | `(tactic| walk_at "c") => `(tactic| (refine ev_to (by walk_at "e") ?_; first | rfl | (simp only [D.int.injEq]; omega)))
/-! groups -/
theorem dec_nat (a b : Nat) : decide ((a : Int) = (b : Int)) = decide (a = b) := by
  by_cases h : a = b
  · rw [decide_eq_true h, decide_eq_true (by omega)]
  · rw [decide_eq_false h, decide_eq_false (by omega)]
def gok (H : Nat → Nat → Nat) (near : List Nat) (col : Nat) (row : List Nat) (p : Nat) : Bool := (near.filter fun a => !decide (H (row.getD a 0) p = col)).isEmpty && !decide (p ∈ row)
def nearN (ties : List Tie) (s : Nat) : List Nat := (ties.filter fun t => decide (t.2 = s)).map (·.1)
def gStep (H : Nat → Nat → Nat) (near : List Nat) (col : Nat) (pts row : List Nat) : List (List Nat) := (pts.filter (gok H near col row)).map fun p => row ++ [p]
def rowsN (H : Nat → Nat → Nat) (ties : List Tie) (col : Nat) (pts : List Nat) : Nat → List (List Nat)
  | 0 => [[]]
  | s + 1 => (rowsN H ties col pts s).flatMap (gStep H (nearN ties s) col pts)
def groupN (H : Nat → Nat → Nat) (w : Web) (col : Nat) (pts : List Nat) : Option (List Nat) := (rowsN H w.2 col pts w.1).head?
def oT : Option (List Nat) → D
  | some L => dT L
  | none => .non
theorem gStep_len {H : Nat → Nat → Nat} {near : List Nat} {col : Nat} {pts row : List Nat} : (gStep H near col pts row).length ≤ pts.length := by
  unfold gStep; rw [List.length_map]; exact List.length_filter_le _ _
theorem rowsN_len {H : Nat → Nat → Nat} {ties : List Tie} {col : Nat} {pts : List Nat} (h : pts.length ≤ 5) : ∀ s, (rowsN H ties col pts s).length ≤ 5 ^ s
  | 0 => by show 1 ≤ 1; omega
  | s + 1 => by
    unfold rowsN
    have := flat_len (gStep H (nearN ties s) col pts) 5 (rowsN H ties col pts s) fun _ _ => Nat.le_trans gStep_len h
    have := rowsN_len (H := H) (ties := ties) (col := col) h s
    rw [Nat.pow_succ]
    omega
theorem rowsN_row {H : Nat → Nat → Nat} {ties : List Tie} {col : Nat} {pts : List Nat} : ∀ s, ∀ row ∈ rowsN H ties col pts s, row.length = s ∧ ∀ p ∈ row, p ∈ pts
  | 0, row, h => by
    obtain rfl := List.mem_singleton.mp h
    exact ⟨rfl, by simp⟩
  | s + 1, row, h => by
    unfold rowsN at h
    obtain ⟨r0, h0, h⟩ := List.mem_flatMap.mp h
    unfold gStep at h
    obtain ⟨p, hp, rfl⟩ := List.mem_map.mp h
    obtain ⟨h1, h2⟩ := rowsN_row s r0 h0
    refine ⟨by rw [List.length_append, h1]; rfl, fun q hq => ?_⟩
    rcases List.mem_append.mp hq with hq | hq
    · exact h2 q hq
    · obtain rfl := List.mem_singleton.mp hq
      exact (List.mem_filter.mp hp).1
structure AGroup where
  (d : D) (c : Case) (w : Web) (col : Nat) (pts : List Nat)
structure PGroup (d : D) (c : Case) (w : Web) (pts : List Nat) (m : Mu) : Prop where
  dv : DV m d (c.map cI)
  w : WebOk w
  l : pts.length ≤ 5
abbrev spGroup : Sp := spT (α := AGroup) (fun a => [a.d, dW a.w, dn a.col, dL a.pts]) (fun a m => PGroup a.d a.c a.w a.pts m) fun a m => Is (oT (groupN (hueN a.c) a.w a.col a.pts)) m
theorem b_group {K : PySem.W.Frag} {d : D} {c : Case} {w : Web} {col : Nat} {pts : List Nat} {m : Mu} (h : PGroup d c w pts m) {A : List Anc} (hA : ∀ B ∈ A, B.M = dm m) :
    Wp A (start0 13 [d, dW w, dn col, dL pts]) m (t__law_group K spHue) (PFT (Is (oT (groupN (hueN c) w col pts)) m) m) := by
  obtain ⟨hd, hw, hl5⟩ := h
  have hwl := hw.hi
  unfold t__law_group
  refine q_asg1 (d := .lst (([[]] : List (List Nat)).map dT)) (by walk_at "c") ?_
  refine q_forT (List.range w.1) (fun (k : Nat) => D.int (k : Int)) (fun i r' m' => ∃ o5 o6 o7 o8 o9 o10 : Option D, r' = [some d, some (dW w), some (dn col), some (dL pts), some (.lst ((rowsN (hueN c) w.2 col pts i).map dT)), o5, o6, o7, o8, o9, o10, none, none] ∧ m' = m) (src_rngN (n := w.1) (by walk_at "e") (by omega)) ⟨none, none, none, none, none, none, rfl, rfl⟩ (fun _ _ _ _ => trivial) (fun B s a r' m' hB ha hj => ?_) fun r' m' hj => ?_
  · obtain ⟨o5, o6, o7, o8, o9, o10, rfl, rfl⟩ := hj
    have hs : s < w.1 := by have := (List.getElem?_eq_some_iff.mp ha).1; rw [List.length_range] at this; exact this
    have ea : a = s := by rw [List.getElem?_range hs] at ha; exact (Option.some.inj ha).symm
    subst ea
    have rl := rowsN_len (H := hueN c) (ties := w.2) (col := col) hl5 a
    have r5 : 5 ^ a ≤ 5 ^ 5 := Nat.pow_le_pow_right (by omega) (by omega)
    refine ⟨_, _, gd_name, q_asg1 (d := dL (nearN w.2 a)) ?_ ?_⟩
    · refine ev_to (ev_lcT w.2 dp (fun t => dn t.1) (fun t => decide (t.2 = a)) (src_tup1 (by walk_at "e")) trivial (fun t ht => ⟨_, _, ?_, gd_tup (gdl_cons gd_name (gdl_cons gd_name gdl_nil)), evt_t (ev_eqI (by walk_at "e") (by walk_at "e")) (dec_nat _ _), fun _ => by walk_at "e"⟩) (by have := hw.l; omega)) ?_
      · simp
      · unfold nearN dL; rw [List.map_map]; rfl
    refine q_asgV (ev_lstV eva_nil) fun l hl => ?_
    refine q_forT (rowsN (hueN c) w.2 col pts a) dT (fun i r' m'' => ∃ o8 o9 o10 : Option D, r' = [some d, some (dW w), some (dn col), some (dL pts), some (.lst ((rowsN (hueN c) w.2 col pts a).map dT)), some (dn a), some (dL (nearN w.2 a)), some (.vol l), o8, o9, o10, none, none] ∧ m'' = pt m' l (.lst ((((rowsN (hueN c) w.2 col pts a).take i).flatMap (gStep (hueN c) (nearN w.2 a) col pts)).map dT))) (src_list1 (by walk_at "e")) ⟨_, _, _, rfl, rfl⟩ (fun _ _ _ _ => trivial) (fun B2 i row r2 m2 hB2 hrow hj => ?_) fun r2 m2 hj => ?_
    · obtain ⟨o8, o9, o10, rfl, rfl⟩ := hj
      have hi : i < (rowsN (hueN c) w.2 col pts a).length := (List.getElem?_eq_some_iff.mp hrow).1
      obtain ⟨rlen, _⟩ := rowsN_row a row (List.mem_of_getElem? hrow)
      generalize hX : ((rowsN (hueN c) w.2 col pts a).take i).flatMap (gStep (hueN c) (nearN w.2 a) col pts) = X
      have hXl : X.length ≤ 5 ^ 5 * 5 := by
        have := flat_len (gStep (hueN c) (nearN w.2 a) col pts) 5 ((rowsN (hueN c) w.2 col pts a).take i) fun _ _ => Nat.le_trans gStep_len hl5
        rw [hX, List.length_take] at this
        omega
      refine ⟨_, _, gd_name, wp_forT pts dn (fun j r' m'' => ∃ o9 o10 : Option D, r' = [some d, some (dW w), some (dn col), some (dL pts), some (.lst ((rowsN (hueN c) w.2 col pts a).map dT)), some (dn a), some (dL (nearN w.2 a)), some (.vol l), some (dT row), o9, o10, none, none] ∧ m'' = pt m' l (.lst ((X ++ ((pts.take j).filter (gok (hueN c) (nearN w.2 a) col row)).map fun p => row ++ [p]).map dT))) (src_list1 (by walk_at "e")) ⟨_, _, rfl, by simp⟩ (fun _ _ _ _ => trivial) (fun B3 j p r3 m3 hB3 hp hj => ?_) fun r3 m3 hj => ?_⟩
      · obtain ⟨o9, o10, rfl, rfl⟩ := hj
        have hdv : ∀ c', DV (pt m' l c') d (c.map cI) := fun c' => by
          rcases hd with rfl | ⟨q, rfl, hq⟩
          · exact .inl rfl
          · exact .inr ⟨q, rfl, by rw [pt_ne (ne_dm (dm_of hq) hl)]; exact hq⟩
        have et : (pts.take (j + 1)).filter (gok (hueN c) (nearN w.2 a) col row) = (pts.take j).filter (gok (hueN c) (nearN w.2 a) col row) ++ (if gok (hueN c) (nearN w.2 a) col row p = true then [p] else []) := by
          rw [List.take_succ, hp, List.filter_append]
          simp [List.filter_cons]
        have yl : ((pts.take j).filter (gok (hueN c) (nearN w.2 a) col row)).length ≤ 5 := Nat.le_trans (List.length_filter_le _ _) (by rw [List.length_take]; omega)
        generalize hY : (pts.take j).filter (gok (hueN c) (nearN w.2 a) col row) = Y at et yl
        refine ⟨_, _, gd_name, q_asg1 (d := dL ((nearN w.2 a).filter fun x => !decide (hueN c (row.getD x 0) p = col))) ?_ ?_⟩
        · refine ev_lcT (nearN w.2 a) dn dn (fun x => !decide (hueN c (row.getD x 0) p = col)) (src_list1 (by walk_at "e")) trivial (fun x hx => ⟨_, [11], by simp, gd_name, evt_t (ev_neI (ev_hue (hdv _) (by walk_at "e") (ev_ixT (i := (x : Int)) (by walk_at "e") (by walk_at "e") (dn_at ?_)) (by walk_at "e")) (by walk_at "e")) (by rw [dec_nat]), fun _ => by walk_at "e"⟩) ?_
          · unfold nearN at hx
            obtain ⟨t, ht, rfl⟩ := List.mem_map.mp hx
            obtain ⟨h1, h2⟩ := List.mem_filter.mp ht
            have := hw.t t h1
            have := of_decide_eq_true h2
            omega
          · unfold nearN
            rw [List.length_map]
            have := List.length_filter_le (fun t : Tie => decide (t.2 = a)) w.2
            have := hw.l
            omega
        refine wp_ifs1 (b := gok (hueN c) (nearN w.2 a) col row p) (evt_and1 (evt_test1 (ev_to (lv_eq0 (.inl rfl) (by walk_at "e") (okD_dL _)) (by rw [isEmpty_map]))) fun _ => evt_test1 (ev_notInTn (by walk_at "e") (by walk_at "e"))) (fun e => wp_drop ?_) fun e => wp_next ?_
        · refine ev_mono (ev_append1 (d := dT (row ++ [p])) (by walk_at "e") pt_same (ev_to (ev_catT (ds := row.map dn) (es := [dn p]) (by walk_at "e") (by walk_at "e") (by rw [List.length_map]; show _ + 1 ≤ _; omega)) (by unfold dT; rw [List.map_append]; rfl)) (by rw [List.length_map, List.length_append, List.length_map]; omega)) fun d' m4 e4 => ?_
          obtain ⟨rfl, rfl⟩ := e4
          exact ⟨_, _, rfl, by rw [pt_pt, et, if_pos e]; simp⟩
        · exact ⟨_, _, rfl, by rw [et, if_neg (by rw [e]; decide)]; simp⟩
      · obtain ⟨o9, o10, rfl, rfl⟩ := hj
        refine ⟨_, _, _, rfl, ?_⟩
        rw [List.take_length, List.take_succ, hrow, List.flatMap_append, hX]
        simp [gStep]
    · obtain ⟨o8, o9, o10, rfl, rfl⟩ := hj
      rw [List.take_length]
      refine wp_freeze (i := 7) rfl pt_same rfl (fun B' hB' => ?_) ?_
      · rcases List.mem_cons.mp hB' with rfl | hB'
        · rw [hB]; exact hl
        · rw [hA B' hB']; exact hl
      · rw [rm_pt hl]
        refine wp_asg (ev_mono (ev_var rfl) fun d' m4 e4 => ?_)
        obtain ⟨rfl, rfl⟩ := e4
        exact ⟨_, _, _, _, _, _, rfl, rfl⟩
  · obtain ⟨o5, o6, o7, o8, o9, o10, rfl, rfl⟩ := hj
    rw [List.length_range]
    unfold groupN
    cases hR : rowsN (hueN c) w.2 col pts w.1 with
    | nil =>
      refine wp_ret (ev_mono (ev_ifR (b := false) (evt_test1 (lv_ne0 (.inl rfl) (by walk_at "e") (okD_Ts []))) (fun e => by cases e) fun _ => ev_non) fun d' m4 e4 => ?_)
      obtain ⟨rfl, rfl⟩ := e4
      show FinT _ _ _ _
      exact fin1 (.refl _) rfl
    | cons row rest =>
      refine wp_ret (ev_mono (ev_ifR (b := true) (evt_test1 (lv_ne0 (.inl rfl) (by walk_at "e") (okD_Ts (row :: rest)))) (fun _ => ev_ixL (i := 0) (d := dT row) (by walk_at "e") ev_int (atI_n (n := 0) rfl)) fun e => by cases e) fun d' m4 e4 => ?_)
      obtain ⟨rfl, rfl⟩ := e4
      show FinT _ _ _ _
      exact fin1 (.refl _) rfl
end Hue
namespace Hue
open PySem PySem.Spec PyProof.Rows L2 DL
/-- the evaluation of an expression that reckons alone -/
local macro_rules | `(tactic| walk_at "e") => `(tactic| first
  | (with_reducible apply ev_var); rfl
  | (with_reducible exact ev_int)
  | ((with_reducible refine ev_to ev_int ?_); rfl)
  | (with_reducible exact ev_bl)
  | (with_reducible exact ev_str)
  | (with_reducible exact ev_non)
  | (with_reducible exact eva_nil)
  | (with_reducible apply eva_cons1) <;> walk_at "e"
  | (with_reducible apply ev_tup1) <;> walk_at "e"
  | (with_reducible apply ev_add) <;> walk_at "e"
  | (with_reducible apply ev_sub) <;> walk_at "e"
  | (with_reducible apply ev_ixT) <;> walk_at "e"
  | (with_reducible apply ev_ixL) <;> (walk_at "e"; done)
  | (with_reducible apply ev_ixV) <;> walk_at "e"
  | (with_reducible apply ev_lt) <;> walk_at "e"
  | (with_reducible apply ev_le) <;> walk_at "e"
  | (with_reducible apply ev_gt) <;> walk_at "e"
  | (with_reducible apply ev_ge) <;> walk_at "e"
  | (with_reducible apply ev_eqI) <;> (walk_at "e"; done)
  | (with_reducible apply ev_neI) <;> (walk_at "e"; done)
  | (with_reducible apply ev_isN) <;> walk_at "e"
  | (with_reducible apply ev_notN) <;> walk_at "e"
  | (with_reducible apply ev_neg) <;> walk_at "e"
  | (with_reducible apply ev_min2) <;> walk_at "e"
  | (with_reducible apply ev_max2) <;> walk_at "e"
  | (with_reducible apply ev_lenT) <;> (walk_at "e"; done)
  | (with_reducible apply ev_lenL) <;> (walk_at "e"; done)
  | (with_reducible apply ev_lenV) <;> walk_at "e"
  | (with_reducible apply ev_lenD) <;> walk_at "e"
  | (with_reducible apply ev_lst1) <;> walk_at "e"
  | (with_reducible assumption)
  | (with_reducible rfl)
  | rfl
  | exact Nat.le_of_ble_eq_true rfl)
local macro_rules | `(tactic| walk_at "t") => `(tactic| first
  | (with_reducible apply evt_test1) <;> walk_at "e"
  | (with_reducible apply evt_B1) <;> walk_at "e"
  | (with_reducible apply evt_not1) <;> walk_at "t")
/-- the same, brought to the wanted form -/
local macro_rules | `(tactic| walk_at "c") => `(tactic| (refine ev_to (by walk_at "e") ?_; first | rfl | (simp only [D.int.injEq]; omega)))
/-! the naive walk over all colourings -/
theorem keys_bs {z : Zs} {m : Mu} {H : Hp} : ∀ {ts : List Tie} {xs : List V}, AtL (mm z m) H (ts.map dp) xs → ∃ bs : List Addr, xs = bs.map V.ref ∧ Paired (fun k c => H c = some (.tup (k.map kV))) (ts.map fun t => kE (iT t)) bs
  | [], _, h => ⟨[], h.inv0, .nil⟩
  | t :: ts, _, h => by
    obtain ⟨v, vs, rfl, h1, h2⟩ := AtL.inv h
    obtain ⟨b, rfl, hb⟩ := at_tk (k := iT t) h1
    obtain ⟨bs, rfl, hp⟩ := keys_bs h2
    exact ⟨b :: bs, rfl, .cons hb hp⟩
theorem ev_dzip {K : PySem.W.Frag} {r : Rho} {m : Mu} {ta tb : TE} {d2 : D} (ts : List Tie) (hs : List Nat) (hv : LV m d2 (hs.map dn)) (ha : Ev1 r m ta (.lst (ts.map dp))) (hb : Ev1 r m tb d2) (nd : ts.Nodup) (h1 : ts.length ≤ 1000) (h2 : hs.length ≤ ts.length) : Ev1 r m (tDictZip K ta tb) (dC (ts.zip hs)) := fun z σ H en v Q q =>
  ha z σ H en v _ fun x H1 _ m1 s1 a1 p => by
    obtain ⟨rfl, rfl⟩ := p
    refine hb z σ H1 (en.go s1.ext) s1.vol _ fun y H2 _ m2 s2 a2 p => ?_
    obtain ⟨rfl, rfl⟩ := p
    have a1' := At.go s2.ext _ _ a1
    obtain ⟨a, xs, rfl, _, hx, hl⟩ := at_lst a1'
    obtain ⟨bs, rfl, hp⟩ := keys_bs hl
    have s12 := s1.trans s2
    have hy : ∃ b ys, y = .ref b ∧ H2 b = some (.lst ys) ∧ AtL (mm z m2) H2 (hs.map dn) ys := by
      rcases hv with rfl | ⟨l, rfl, hm⟩
      · obtain ⟨b, ys, rfl, _, h3, h4⟩ := at_lst a2
        exact ⟨b, ys, rfl, h3, h4⟩
      · obtain ⟨ys, h3, h4⟩ := s2.vol.at_ l _ hm
        exact ⟨l, ys, at_vol a2, h3, h4⟩
    obtain ⟨b, ys, rfl, hby, hys⟩ := hy
    have e : hs.map dn = (hs.map fun (n : Nat) => (n : Int)).map D.int := by rw [List.map_map]; rfl
    rw [e] at hys
    have ey := at_ints hys
    refine ⟨a, b, ts.map fun t => kE (iT t), bs, ys, rfl, rfl, .inl (.of hx), .inl (.of hby), hp, ?_, by rw [List.length_map]; exact h1, by rw [ey]; simpa using h2, fun p np => ?_⟩
    · exact List.pairwise_map.mpr (nd.imp fun {x y} hxy e => hxy (iT_inj.mp (kE_inj.mp e)))
    · refine q _ _ _ m2 (s12.trans (.new s12.vol np)) (mk_dic (s12.vol.fresh np) ?_) ⟨rfl, rfl⟩
      rw [upd_same, ey, List.map_map, List.zip_map, List.map_map]
      rfl
theorem tiesN_nd {n : Nat} (hn : n ≤ 5) : (tiesN n).Nodup := by
  have : n = 0 ∨ n = 1 ∨ n = 2 ∨ n = 3 ∨ n = 4 ∨ n = 5 := by omega
  rcases this with rfl | rfl | rfl | rfl | rfl | rfl <;> decide
/-- a case: the first ties of so many points, coloured -/
def caseN (n : Nat) (hs : List Nat) : Case := (tiesN n).zip hs
def popR (C : Nat) : List Nat → List Nat
  | [] => []
  | h :: t => if h + 1 = C then popR C t else h :: t
def nWeb (ws : List Web) (h : Nat) : Web := ws.getD h (0, [])
def closing (ws : List Web) (n : Nat) (st : List Nat) : Option (List Nat) :=
  match st with
  | [] => none
  | h :: t => groupN (hueN (caseN n (h :: t).reverse)) (nWeb ws h) h (List.range n)
def naiveN (ws : List Web) (n : Nat) : Nat → Nat → List Nat → Option (Nat × Option (List Nat))
  | 0, _, _ => none
  | f + 1, d, st =>
    match closing ws n st with
    | none => if st.length = (tiesN n).length then some (d, some st.reverse) else naiveN ws n f (d + 1) (0 :: st)
    | some _ => match popR ws.length st with
      | [] => some (d, none)
      | h :: t => naiveN ws n f (d + 1) ((h + 1) :: t)
def oN : Option (Nat × Option (List Nat)) → D
  | none => .non
  | some (d, o) => .tup [dn d, oT o]
structure ANaive where
  (ws : List Web) (n k : Nat)
structure PNaive (ws : List Web) (n k : Nat) : Prop where
  w : DemOk ws
  n : n ≤ 5
  k : k ≤ 1000
abbrev spNaive : Sp := spT (α := ANaive) (fun a => [dDm a.ws, dn a.n, dn a.k]) (fun a _ => PNaive a.ws a.n a.k) fun a m => Is (oN (naiveN a.ws a.n a.k 1 [])) m
theorem isNon_oT (o : Option (List Nat)) : isNonD (oT o) = o.isNone := by cases o <;> rfl
theorem popR_lt {C : Nat} : ∀ {st : List Nat}, (∀ h ∈ st, h < C) → ∀ {h t}, popR C st = h :: t → h + 1 < C ∧ (∀ x ∈ t, x < C) ∧ t.length < st.length
  | [], _, h, t, e => by cases e
  | x :: xs, hx, h, t, e => by
    unfold popR at e
    split at e
    · have := popR_lt (fun y hy => hx y (List.mem_cons_of_mem _ hy)) e
      exact ⟨this.1, this.2.1, by have := this.2.2; simp; omega⟩
    · cases e
      have := hx x List.mem_cons_self
      exact ⟨by omega, fun y hy => hx y (List.mem_cons_of_mem _ hy), by simp⟩
theorem nWeb_at {ws : List Web} {h : Nat} (hh : h < ws.length) : ws[h]? = some (nWeb ws h) := by
  unfold nWeb
  rw [List.getD_eq_getElem?_getD, List.getElem?_eq_getElem hh]; rfl
theorem nWeb_mem {ws : List Web} {h : Nat} (hh : h < ws.length) : nWeb ws h ∈ ws := List.mem_of_getElem? (nWeb_at hh)
theorem ev_web {K : PySem.W.Frag} {r : Rho} {m : Mu} {ta tb : TE} {ws : List Web} {h : Nat} (ha : Ev1 r m ta (dDm ws)) (hb : Ev1 r m tb (dn h)) (hh : h < ws.length) : Ev1 r m (tOp (rIxT K) ta tb) (dW (nWeb ws h)) :=
  ev_ixT ha hb (atI_n (by rw [List.getElem?_map, nWeb_at hh]; rfl))
theorem b_naive {K : PySem.W.Frag} {ws : List Web} {n k : Nat} {m : Mu} (hp : PNaive ws n k) {A : List Anc} :
    Wp A (start0 8 [dDm ws, dn n, dn k]) m (t__law_naive K spGroup spTies) (PFT (Is (oN (naiveN ws n k 1 [])) m) m) := by
  obtain ⟨hw, hn, hk⟩ := hp
  have hC := hw.hi
  have hT := tiesN_len hn
  unfold t__law_naive
  obtain ⟨N0, hN0⟩ : ∃ N0, N0 = naiveN ws n k 1 [] := ⟨_, rfl⟩
  rw [← hN0]
  refine q_asg1 (d := .lst ((tiesN n).map dp)) (ev_callP (ATies.mk n) (by walk_at "e") (show n ≤ 100 by omega)) ?_
  refine q_asgV (ev_lstV eva_nil) fun l hl => ?_
  have s0 := src_rng2' (r := [some (dDm ws), some (dn n), some (dn k), some (D.lst ((tiesN n).map dp)), some (.vol l), none, none, none]) (m := pt m l (.lst [])) (ta := tCons (tC (.int 1)) (tCons (tOp rAddI (tVar 2) (tC (.int 1))) tNil)) (i := 1) (j := k + 1) (eva_cons1 (by walk_at "e") (eva_cons1 (by walk_at "c") eva_nil)) (by omega) (by omega)
  refine q_forT (List.range (k + 1 - 1)) (fun j => D.int ((1 + j : Nat) : Int)) (fun i r' m' => ∃ (st : List Nat) (o5 o6 o7 : Option D), r' = [some (dDm ws), some (dn n), some (dn k), some (D.lst ((tiesN n).map dp)), some (.vol l), o5, o6, o7] ∧ m' = pt m l (.lst (st.reverse.map dn)) ∧ i ≤ k ∧ N0 = naiveN ws n (k - i) (1 + i) st ∧ (∀ h ∈ st, h < ws.length) ∧ st.length ≤ (tiesN n).length) s0 ⟨[], none, none, none, rfl, rfl, by omega, hN0, by simp, by simp⟩ (fun _ _ _ _ => trivial) (fun B i a r' m' hB ha hj => ?_) fun r' m' hj => ?_
  · obtain ⟨st, o5, o6, o7, rfl, rfl, hik, hN, hst, hsl⟩ := hj
    have hi : i < k + 1 - 1 := by have := (List.getElem?_eq_some_iff.mp ha).1; rw [List.length_range] at this; exact this
    have ea : a = i := by rw [List.getElem?_range hi] at ha; exact (Option.some.inj ha).symm
    subst ea
    have ef : k - a = (k - (a + 1)) + 1 := by omega
    rw [ef] at hN
    unfold naiveN at hN
    have hv : LV (pt m l (.lst (st.reverse.map dn))) (.vol l) (st.reverse.map dn) := .inr ⟨l, rfl, pt_same⟩
    refine ⟨_, _, gd_name, q_asg1 (d := dC (caseN n st.reverse)) (ev_dzip (tiesN n) st.reverse hv (by walk_at "e") (by walk_at "e") (tiesN_nd hn) (by omega) (by rw [List.length_reverse]; exact hsl)) ?_⟩
    refine q_asg1 (d := .non) ev_non ?_
    refine q_cut (fun r2 m2 => r2 = [some (dDm ws), some (dn n), some (dn k), some (D.lst ((tiesN n).map dp)), some (.vol l), some (dn (1 + a)), some (dC (caseN n st.reverse)), some (oT (closing ws n st))] ∧ m2 = pt m l (.lst (st.reverse.map dn))) (wp_ifs1 (b := !st.isEmpty) (evt_test1 (ev_to (lv_ne0 hv (by walk_at "e") (okD_dL _)) (by cases st <;> simp))) (fun e => wp_asg ?_) fun e => wp_next ?_) fun r2 m2 q => ?_
    · cases st with
      | nil => cases e
      | cons h t =>
        have hh := hst h List.mem_cons_self
        have hlast : ∀ {r : Rho}, r[4]? = some (some (.vol l)) → Ev1 r (pt m l (.lst ((h :: t).reverse.map dn))) (tOp (rIxL K) (tVar 4) (tUn uNegI (tC (.int 1)))) (dn h) := fun hr => ev_ixV (i := -1) (ev_var hr) (ev_neg ev_int) pt_same (atI_m1 (by simp))
        refine ev_mono (ev_callP (AGroup.mk (dC (caseN n (h :: t).reverse)) (caseN n (h :: t).reverse) (nWeb ws h) h (List.range n)) (eva_cons1 (by walk_at "e") (eva_cons1 (ev_web (by walk_at "e") (hlast rfl) hh) (eva_cons1 (hlast rfl) (eva_cons1 (ev_to (ev_listRg (by walk_at "e") (by omega) (.inl rfl)) (by rw [rng_dn2])) eva_nil)))) ⟨.inl rfl, hw.w _ (nWeb_mem hh), by rw [List.length_range]; exact hn⟩) fun d m3 q => ?_
        obtain ⟨rfl, rfl⟩ := q
        exact ⟨rfl, rfl⟩
    · cases st with
      | nil => exact ⟨rfl, rfl⟩
      | cons h t => cases e
    obtain ⟨rfl, rfl⟩ := q
    have hlen : ∀ {r : Rho}, r[4]? = some (some (.vol l)) → r[3]? = some (some (D.lst ((tiesN n).map dp))) → Ev1 r (pt m l (.lst (st.reverse.map dn))) (tOp rEq (tCB (rLenS K) (tCons (tVar 4) tNil)) (tCB (rLenS K) (tCons (tVar 3) tNil))) (.bl (decide (st.length = (tiesN n).length))) := fun h1 h2 =>
      ev_to (ev_eqI (ev_lenV (ev_var h1) pt_same) (ev_lenL (ev_var h2))) (by rw [dec_nat, List.length_map, List.length_map, List.length_reverse])
    refine q_if (b := (closing ws n st).isNone && decide (st.length = (tiesN n).length)) (evt_and1 (evt_B1 (ev_to (ev_isN (by walk_at "e")) (by rw [isNon_oT]))) fun _ => evt_test1 (hlen rfl rfl)) (fun e => ?_) fun e => ?_
    · rw [Bool.and_eq_true] at e
      cases hc : closing ws n st with
      | some _ => rw [hc] at e; cases e.1
      | none =>
        rw [hc] at hN
        simp only at hN
        rw [if_pos (of_decide_eq_true e.2)] at hN
        refine wp_ret (ev_mono (ev_tup1 (eva_cons1 (by walk_at "e") (eva_cons1 (ev_tupleV (by walk_at "e") pt_same) eva_nil))) fun d m4 e4 => ?_)
        obtain ⟨rfl, rfl⟩ := e4
        show FinT _ _ _ _
        rw [hN]
        exact fin1 (.new hl) rfl
    refine wp_ifs1 (b := (closing ws n st).isNone) (evt_B1 (ev_to (ev_isN (by walk_at "e")) (by rw [isNon_oT]))) (fun e1 => wp_drop ?_) fun e1 => ?_
    · have e2 : ¬ st.length = (tiesN n).length := by rw [e1] at e; simpa using e
      have hc : closing ws n st = none := by cases hc : closing ws n st with
        | none => rfl
        | some _ => rw [hc] at e1; cases e1
      rw [hc] at hN
      simp only at hN
      rw [if_neg e2] at hN
      refine ev_mono (ev_append1 (d := dn 0) (by walk_at "e") pt_same (by walk_at "e") (by rw [List.length_map, List.length_reverse]; omega)) fun d m3 e3 => ?_
      obtain ⟨rfl, rfl⟩ := e3
      refine ⟨0 :: st, _, _, _, rfl, by rw [pt_pt]; simp, by omega, by rw [hN]; congr 1, fun h hh => ?_, by simp; omega⟩
      rcases List.mem_cons.mp hh with rfl | hh
      · have := hw.lo; omega
      · exact hst h hh
    · obtain ⟨g, hc⟩ : ∃ g, closing ws n st = some g := by
        cases hc : closing ws n st with
        | none => rw [hc] at e1; cases e1
        | some g => exact ⟨g, rfl⟩
      rw [hc] at hN
      simp only at hN
      generalize hX : oT (closing ws n st) = X
      refine q_cut (fun r2 m2 => r2 = [some (dDm ws), some (dn n), some (dn k), some (D.lst ((tiesN n).map dp)), some (.vol l), some (dn (1 + a)), some (dC (caseN n st.reverse)), some X] ∧ m2 = pt m l (.lst ((popR ws.length st).reverse.map dn))) (wp_while (fun j r2 m2 => ∃ s2 : List Nat, r2 = [some (dDm ws), some (dn n), some (dn k), some (D.lst ((tiesN n).map dp)), some (.vol l), some (dn (1 + a)), some (dC (caseN n st.reverse)), some X] ∧ m2 = pt m l (.lst (s2.reverse.map dn)) ∧ popR ws.length s2 = popR ws.length st ∧ s2.length = j) ⟨_, st, rfl, rfl, rfl, rfl⟩ fun j r2 m2 hj => ?_) fun r2 m2 q => ?_
      · obtain ⟨s2, rfl, rfl, hs2, rfl⟩ := hj
        have hv2 : LV (pt m l (.lst (s2.reverse.map dn))) (.vol l) (s2.reverse.map dn) := .inr ⟨l, rfl, pt_same⟩
        cases s2 with
        | nil =>
          refine evt_mono (evt_and1 (b := false) (evt_test1 (b := false) (ev_to (lv_ne0 hv2 (by walk_at "e") (okD_dL _)) (by simp))) fun e => by cases e) fun b m3 q => ?_
          obtain ⟨rfl, rfl⟩ := q
          rw [Bool.false_and, if_neg Bool.false_ne_true]
          exact ⟨rfl, by rw [← hs2]; rfl⟩
        | cons h t =>
          refine evt_mono (evt_and1 (b := decide (h + 1 = ws.length)) (evt_test1 (b := true) (ev_to (lv_ne0 hv2 (by walk_at "e") (okD_dL _)) (by simp))) fun _ => evt_t (ev_eqI (ev_ixV (i := -1) (d := dn h) (by walk_at "e") (ev_neg ev_int) pt_same (atI_m1 (by simp))) (ev_sub (ev_lenT (by walk_at "e")) (by walk_at "e"))) ?_) fun b m3 q => ?_
          · rw [List.length_map, decide_eq_decide]
            have := hw.lo
            omega
          · obtain ⟨rfl, rfl⟩ := q
            rw [Bool.true_and]
            split
            · rename_i e2
              have e2 := of_decide_eq_true e2
              refine wp_drop (ev_mono (ev_pop (d := dn h) (by walk_at "e") pt_same (by simp)) fun d m4 e4 => ?_)
              obtain ⟨rfl, rfl⟩ := e4
              refine ⟨t.length, by simp, t, rfl, by rw [pt_pt]; simp, ?_, rfl⟩
              rw [← hs2]
              show _ = if _ then _ else _
              rw [if_pos e2]
            · rename_i e2
              have e2 : ¬ h + 1 = ws.length := fun q => e2 (decide_eq_true q)
              refine ⟨rfl, ?_⟩
              rw [← hs2]
              unfold popR
              rw [if_neg e2]
      · obtain ⟨rfl, rfl⟩ := q
        cases hpop : popR ws.length st with
        | nil =>
          rw [hpop] at hN
          simp only at hN
          refine q_if (b := true) (evt_test1 (ev_to (lv_eq0 (.inr ⟨l, rfl, pt_same⟩) (by walk_at "e") (okD_dL [])) (by simp))) (fun _ => ?_) (fun e => by cases e)
          refine wp_ret (ev_mono (ev_tup1 (eva_cons1 (by walk_at "e") (eva_cons1 (by walk_at "e") eva_nil))) fun d m4 e4 => ?_)
          obtain ⟨rfl, rfl⟩ := e4
          show FinT _ _ _ _
          rw [hN]
          exact fin1 (.new hl) rfl
        | cons h t =>
          rw [hpop] at hN
          simp only at hN
          obtain ⟨p1, p2, p3⟩ := popR_lt hst hpop
          refine q_if (b := false) (evt_test1 (ev_to (lv_eq0 (.inr ⟨l, rfl, pt_same⟩) (by walk_at "e") (okD_dL _)) (by simp))) (fun e => by cases e) (fun _ => ?_)
          refine wp_drop (ev_append (R1 := fun d m4 => d = dn (h + 1) ∧ m4 = pt m l (.lst (t.reverse.map dn))) (by walk_at "e") pt_same (ev_opC (R1 := Is (dn h) (pt m l (.lst (t.reverse.map dn)))) (ev_mono (ev_pop (d := dn h) (by walk_at "e") pt_same (by simp)) fun d m4 e4 => ?_) (fun _ _ _ => ev_int) fun d1 m4 e4 => ?_) fun d m4 e4 => ?_)
          · obtain ⟨rfl, rfl⟩ := e4
            exact ⟨rfl, by rw [pt_pt]; simp⟩
          · obtain ⟨rfl, rfl⟩ := e4
            exact op_mono o_add fun d m5 e5 => ⟨by rw [e5.1]; rfl, e5.2⟩
          · obtain ⟨rfl, rfl⟩ := e4
            refine ⟨_, pt_same, by rw [List.length_map, List.length_reverse]; omega, (h + 1) :: t, _, _, _, rfl, by rw [pt_pt]; simp, by omega, by rw [hN]; congr 1, fun x hx => ?_, by simp; omega⟩
            rcases List.mem_cons.mp hx with rfl | hx
            · exact p1
            · exact p2 x hx
  · obtain ⟨st, o5, o6, o7, rfl, rfl, hik, hN, hst, hsl⟩ := hj
    rw [List.length_range] at hN
    have ek : k - (k + 1 - 1) = 0 := by omega
    rw [ek] at hN
    unfold naiveN at hN
    refine wp_ret (ev_mono ev_non fun d m4 e4 => ?_)
    obtain ⟨rfl, rfl⟩ := e4
    show FinT _ _ _ _
    rw [hN]
    exact fin1 (.new hl) rfl
end Hue
namespace Hue
open PySem PySem.Spec PyProof.Rows L2 DL
/-- the evaluation of an expression that reckons alone -/
local macro_rules | `(tactic| walk_at "e") => `(tactic| first
  | (with_reducible apply ev_var); rfl
  | (with_reducible exact ev_int)
  | ((with_reducible refine ev_to ev_int ?_); rfl)
  | (with_reducible exact ev_bl)
  | (with_reducible exact ev_str)
  | (with_reducible exact ev_non)
  | (with_reducible exact eva_nil)
  | (with_reducible apply eva_cons1) <;> walk_at "e"
  | (with_reducible apply ev_tup1) <;> walk_at "e"
  | (with_reducible apply ev_add) <;> walk_at "e"
  | (with_reducible apply ev_sub) <;> walk_at "e"
  | (with_reducible apply ev_ixT) <;> walk_at "e"
  | (with_reducible apply ev_ixL) <;> (walk_at "e"; done)
  | (with_reducible apply ev_ixV) <;> walk_at "e"
  | (with_reducible apply ev_lt) <;> walk_at "e"
  | (with_reducible apply ev_le) <;> walk_at "e"
  | (with_reducible apply ev_gt) <;> walk_at "e"
  | (with_reducible apply ev_ge) <;> walk_at "e"
  | (with_reducible apply ev_eqI) <;> (walk_at "e"; done)
  | (with_reducible apply ev_neI) <;> (walk_at "e"; done)
  | (with_reducible apply ev_isN) <;> walk_at "e"
  | (with_reducible apply ev_notN) <;> walk_at "e"
  | (with_reducible apply ev_neg) <;> walk_at "e"
  | (with_reducible apply ev_min2) <;> walk_at "e"
  | (with_reducible apply ev_max2) <;> walk_at "e"
  | (with_reducible apply ev_lenT) <;> (walk_at "e"; done)
  | (with_reducible apply ev_lenL) <;> (walk_at "e"; done)
  | (with_reducible apply ev_lenV) <;> walk_at "e"
  | (with_reducible apply ev_lenD) <;> walk_at "e"
  | (with_reducible apply ev_lst1) <;> walk_at "e"
  | (with_reducible assumption)
  | (with_reducible rfl)
  | rfl
  | exact Nat.le_of_ble_eq_true rfl)
local macro_rules | `(tactic| walk_at "t") => `(tactic| first
  | (with_reducible apply evt_test1) <;> walk_at "e"
  | (with_reducible apply evt_B1) <;> walk_at "e"
  | (with_reducible apply evt_not1) <;> walk_at "t")
/-- the same, brought to the wanted form -/
local macro_rules | `(tactic| walk_at "c") => `(tactic| (refine ev_to (by walk_at "e") ?_; first | rfl | (simp only [D.int.injEq]; omega)))
/-! a demand and so few points that no colouring is free -/
theorem cutD_take {xs : List D} {k : Nat} : DL.cutD xs none (some (k : Int)) = xs.take k := by
  unfold DL.cutD
  rw [HT.sIx_nat, HT.sIx_none, List.drop_zero, Nat.sub_zero]
  by_cases h : k ≤ xs.length
  · rw [Nat.min_eq_left h]
  · rw [Nat.min_eq_right (by omega), List.take_length, List.take_of_length_le (by omega)]
theorem cutD_drop {xs : List D} {k : Nat} : DL.cutD xs (some (k : Int)) none = xs.drop k := by
  unfold DL.cutD
  rw [HT.sIx_nat, HT.sIx_none]
  by_cases h : k ≤ xs.length
  · rw [Nat.min_eq_left h, List.take_of_length_le (by rw [List.length_drop]; omega)]
  · rw [Nat.min_eq_right (by omega), Nat.sub_self, List.take_zero, List.drop_eq_nil_of_le (by omega)]
def edge : Web := (2, [(0, 1)])
theorem edge_ok : WebOk edge := ⟨by decide, by decide, by decide, by decide, by decide⟩
def wsAt (ws : List Web) (i : Nat) : List Web := List.replicate i edge ++ ws.drop i
theorem wsAt_ok {ws : List Web} (h : DemOk ws) {i : Nat} (hi : i ≤ ws.length) : DemOk (wsAt ws i) := by
  have hl : (wsAt ws i).length = ws.length := by unfold wsAt; rw [List.length_append, List.length_replicate, List.length_drop]; omega
  refine ⟨fun w hw => ?_, by rw [hl]; exact h.lo, by rw [hl]; exact h.hi⟩
  rcases List.mem_append.mp hw with hw | hw
  · rw [List.eq_of_mem_replicate hw]; exact edge_ok
  · exact h.w w (List.mem_of_mem_drop hw)
theorem wsAt_len {ws : List Web} {i : Nat} (hi : i ≤ ws.length) : (wsAt ws i).length = ws.length := by unfold wsAt; rw [List.length_append, List.length_replicate, List.length_drop]; omega
theorem wsAt_step {ws : List Web} {i : Nat} (hi : i < ws.length) : (wsAt ws i).take i ++ [edge] ++ (wsAt ws i).drop (i + 1) = wsAt ws (i + 1) := by
  unfold wsAt
  have h1 : (List.replicate i edge ++ ws.drop i).take i = List.replicate i edge := by
    rw [List.take_append_of_le_length (by rw [List.length_replicate]; omega), List.take_of_length_le (by rw [List.length_replicate]; omega)]
  have h2 : (List.replicate i edge ++ ws.drop i).drop (i + 1) = ws.drop (i + 1) := by
    rw [List.drop_append, List.length_replicate, List.drop_eq_nil_of_le (by rw [List.length_replicate]; omega), List.nil_append, List.drop_drop]
    congr 1
    omega
  rw [h1, h2, List.replicate_succ']
def freeB (o : Option (Nat × Option (List Nat))) : Bool := match o with
  | some (_, none) => true
  | _ => false
theorem edges_free : ∀ n, 1 ≤ n → n ≤ 4 → freeB (naiveN (List.replicate n edge) 2 250 1 []) = true := fun n h1 h4 => by
  have : n = 1 ∨ n = 2 ∨ n = 3 ∨ n = 4 := by omega
  rcases this with rfl | rfl | rfl | rfl <;> decide +kernel
structure ANone where
  (ws : List Web)
structure QNone (d : D) (m m' : Mu) : Prop where
  ex : ∃ vs few, d = .tup [dDm vs, dn few] ∧ DemOk vs ∧ 2 ≤ few ∧ few ≤ 5 ∧ freeB (naiveN vs few 250 1 []) = true
  m : m' = m
abbrev spNone : Sp := spT (α := ANone) (fun a => [dDm a.ws, dn 250]) (fun a _ => DemOk a.ws) fun _ m d m' => QNone d m m'
theorem evt_free {K : PySem.W.Frag} {r : Rho} {m : Mu} {N : Option (Nat × Option (List Nat))} (h : r[4]? = some (some (oN N))) : EvT1 r m (tAnd (tB (tNotN (tVar 4))) (tB (tIsN (tOp (rIxT K) (tVar 4) (tC (.int 1)))))) (freeB N) := by
  cases N with
  | none => exact evt_to (evt_and1 (a := false) (b := false) (evt_B1 (ev_to (ev_notN (ev_var h)) rfl)) (fun e => by cases e)) rfl
  | some p =>
    obtain ⟨k, o⟩ := p
    cases o with
    | none => exact evt_to (evt_and1 (a := true) (b := true) (evt_B1 (ev_to (ev_notN (ev_var h)) rfl)) (fun _ => evt_B1 (ev_to (ev_isN (d := .non) (ev_ixT (i := 1) (ds := [dn k, .non]) (ev_var h) ev_int (atI_n (n := 1) rfl))) rfl))) rfl
    | some L => exact evt_to (evt_and1 (a := true) (b := false) (evt_B1 (ev_to (ev_notN (ev_var h)) rfl)) (fun _ => evt_B1 (ev_to (ev_isN (d := dT L) (ev_ixT (i := 1) (ds := [dn k, dT L]) (ev_var h) ev_int (atI_n (n := 1) rfl))) rfl))) rfl
theorem b_none {K : PySem.W.Frag} {ws : List Web} {m : Mu} (hw : DemOk ws) {A : List Anc} :
    Wp A (start0 5 [dDm ws, dn 250]) m (t__law_none K spNaive) (PFT (fun d m' => QNone d m m') m) := by
  have h1 := hw.lo
  have h4 := hw.hi
  unfold t__law_none
  refine q_forT (List.range (ws.length + 1)) (fun (k : Nat) => D.int (k : Int)) (fun i r' m' => i ≤ ws.length ∧ ∃ o2 o3 o4 : Option D, r' = [some (dDm (wsAt ws i)), some (dn 250), o2, o3, o4] ∧ m' = m) (src_rngN (n := ws.length + 1) (eva_cons1 (ev_to (ev_add (ev_lenT (by walk_at "e")) (by walk_at "e")) (by rw [List.length_map]; rfl)) eva_nil) (by omega)) ⟨by omega, none, none, none, rfl, rfl⟩ (fun _ _ _ _ => trivial) (fun B i a r' m' hB ha hj => ?_) fun r' m' hj => ?_
  · obtain ⟨hi, o2, o3, o4, rfl, rfl⟩ := hj
    have hi' : i < ws.length + 1 := by omega
    have ea : a = i := by rw [List.getElem?_range hi'] at ha; exact (Option.some.inj ha).symm
    subst ea
    have vok := wsAt_ok hw hi
    have vlen := wsAt_len hi
    generalize hV : wsAt ws a = vs at *
    refine ⟨_, _, gd_name, q_forT (List.range (6 - 2)) (fun j => D.int ((2 + j : Nat) : Int)) (fun j r' m'' => (a = ws.length → j = 0) ∧ ∃ o3 o4 : Option D, r' = [some (dDm vs), some (dn 250), some (dn a), o3, o4] ∧ m'' = m') (src_rng2' (i := 2) (j := 6) (eva_cons1 (by walk_at "e") (eva_cons1 (by walk_at "e") eva_nil)) (by omega) (by omega)) ⟨fun _ => rfl, _, _, rfl, rfl⟩ (fun _ _ _ _ => trivial) (fun B2 j b r2 m2 hB2 hb hj => ?_) fun r2 m2 hj => ?_⟩
    · obtain ⟨hj0, o3, o4, rfl, rfl⟩ := hj
      have hj4 : j < 6 - 2 := by have := (List.getElem?_eq_some_iff.mp hb).1; rw [List.length_range] at this; exact this
      have eb : b = j := by rw [List.getElem?_range hj4] at hb; exact (Option.some.inj hb).symm
      subst eb
      refine ⟨_, _, gd_name, q_asg1 (d := oN (naiveN vs (2 + b) 250 1 [])) (ev_callP (ANaive.mk vs (2 + b) 250) (by walk_at "e") ⟨vok, by show 2 + b ≤ 5; omega, by show 250 ≤ 1000; omega⟩) ?_⟩
      refine wp_ifs1 (evt_free rfl) (fun e => wp_ret (ev_mono (ev_tup1 (eva_cons1 (by walk_at "e") (eva_cons1 (by walk_at "e") eva_nil))) fun d m4 e4 => ?_)) fun e => wp_next ⟨fun q => ?_, _, _, rfl, rfl⟩
      · obtain ⟨rfl, rfl⟩ := e4
        show FinT _ _ _ _
        exact fin_same (fun _ h => h) ⟨⟨vs, 2 + b, rfl, vok, by omega, by omega, e⟩, rfl⟩
      · exfalso
        have := hj0 q
        subst this
        have hv : vs = List.replicate ws.length edge := by rw [← hV, q]; unfold wsAt; rw [List.drop_length, List.append_nil]
        have := edges_free ws.length h1 h4
        rw [← hv, e] at this
        cases this
    · obtain ⟨hj0, o3, o4, rfl, rfl⟩ := hj
      have hlt : a < ws.length := by
        rcases Nat.lt_or_ge a ws.length with h | h
        · exact h
        · exact absurd (hj0 (by omega)) (by decide)
      refine wp_asg (ev_mono (ev_to (d1 := dDm (wsAt ws (a + 1))) (ev_catT (ev_catT (ev_slT (by walk_at "e") evo_none (evo_some (i := (a : Int)) (by walk_at "e"))) (es := [dW edge]) (by walk_at "c") ?_) (ev_slT (by walk_at "e") (evo_some (i := ((a + 1 : Nat) : Int)) (by walk_at "c")) evo_none) ?_) ?_) fun d m4 e4 => ?_)
      · rw [cutD_take, List.length_take, List.length_map]
        show _ + 1 ≤ _
        omega
      · rw [cutD_take, cutD_drop, List.length_append, List.length_take, List.length_drop, List.length_map]
        show _ + 1 + _ ≤ _
        omega
      · rw [cutD_take, cutD_drop, ← wsAt_step hlt, hV]
        simp
      · obtain ⟨rfl, rfl⟩ := e4
        exact ⟨by omega, _, _, _, rfl, rfl⟩
  · obtain ⟨hi, _⟩ := hj
    rw [List.length_range] at hi
    omega
end Hue
namespace Hue
open PySem PySem.Spec PyProof.Rows L2 DL
/-- the evaluation of an expression that reckons alone -/
local macro_rules | `(tactic| walk_at "e") => `(tactic| first
  | (with_reducible apply ev_var); rfl
  | (with_reducible exact ev_int)
  | ((with_reducible refine ev_to ev_int ?_); rfl)
  | (with_reducible exact ev_bl)
  | (with_reducible exact ev_str)
  | (with_reducible exact ev_non)
  | (with_reducible exact eva_nil)
  | (with_reducible apply eva_cons1) <;> walk_at "e"
  | (with_reducible apply ev_tup1) <;> walk_at "e"
  | (with_reducible apply ev_add) <;> walk_at "e"
  | (with_reducible apply ev_sub) <;> walk_at "e"
  | (with_reducible apply ev_ixT) <;> walk_at "e"
  | (with_reducible apply ev_ixL) <;> (walk_at "e"; done)
  | (with_reducible apply ev_ixV) <;> walk_at "e"
  | (with_reducible apply ev_lt) <;> walk_at "e"
  | (with_reducible apply ev_le) <;> walk_at "e"
  | (with_reducible apply ev_gt) <;> walk_at "e"
  | (with_reducible apply ev_ge) <;> walk_at "e"
  | (with_reducible apply ev_eqI) <;> (walk_at "e"; done)
  | (with_reducible apply ev_neI) <;> (walk_at "e"; done)
  | (with_reducible apply ev_isN) <;> walk_at "e"
  | (with_reducible apply ev_notN) <;> walk_at "e"
  | (with_reducible apply ev_neg) <;> walk_at "e"
  | (with_reducible apply ev_min2) <;> walk_at "e"
  | (with_reducible apply ev_max2) <;> walk_at "e"
  | (with_reducible apply ev_lenT) <;> (walk_at "e"; done)
  | (with_reducible apply ev_lenL) <;> (walk_at "e"; done)
  | (with_reducible apply ev_lenV) <;> walk_at "e"
  | (with_reducible apply ev_lenD) <;> walk_at "e"
  | (with_reducible apply ev_lst1) <;> walk_at "e"
  | (with_reducible assumption)
  | (with_reducible rfl)
  | rfl
  | exact Nat.le_of_ble_eq_true rfl)
local macro_rules | `(tactic| walk_at "t") => `(tactic| first
  | (with_reducible apply evt_test1) <;> walk_at "e"
  | (with_reducible apply evt_B1) <;> walk_at "e"
  | (with_reducible apply evt_not1) <;> walk_at "t")
/-- the same, brought to the wanted form -/
local macro_rules | `(tactic| walk_at "c") => `(tactic| (refine ev_to (by walk_at "e") ?_; first | rfl | (simp only [D.int.injEq]; omega)))
/-! orders, alike webs, swaps -/
def ordS (n : Nat) (row : List Nat) : List (List Nat) := ((List.range n).filter fun x => !decide (x ∈ row)).map fun x => row ++ [x]
def ordN (n : Nat) : Nat → List (List Nat)
  | 0 => [[]]
  | s + 1 => (ordN n s).flatMap (ordS n)
def ordersN (n : Nat) : List (List Nat) := ordN n n
theorem ordS_len (n : Nat) (row : List Nat) : (ordS n row).length ≤ n := by
  unfold ordS; rw [List.length_map]; exact Nat.le_trans (List.length_filter_le _ _) (by rw [List.length_range]; exact Nat.le_refl _)
theorem ordN_len {n : Nat} (h : n ≤ 5) : ∀ s, (ordN n s).length ≤ 5 ^ s
  | 0 => by show 1 ≤ 1; omega
  | s + 1 => by
    unfold ordN
    have := flat_len (ordS n) 5 (ordN n s) fun _ _ => Nat.le_trans (ordS_len n _) h
    have := ordN_len h s
    rw [Nat.pow_succ]
    omega
theorem mem_ordN {n : Nat} : ∀ {s : Nat} {row : List Nat}, row ∈ ordN n s ↔ OrdOk row s ∧ False ∨ (row.Nodup ∧ row.length = s ∧ ∀ x ∈ row, x < n)
  | 0, row => by
    unfold ordN
    rw [List.mem_singleton]
    constructor
    · rintro rfl; exact .inr ⟨List.nodup_nil, rfl, by simp⟩
    · rintro (⟨_, h⟩ | ⟨_, h, _⟩)
      · exact h.elim
      · exact List.length_eq_zero_iff.mp h
  | s + 1, row => by
    unfold ordN
    rw [List.mem_flatMap]
    constructor
    · rintro ⟨r0, h0, h⟩
      unfold ordS at h
      obtain ⟨x, hx, rfl⟩ := List.mem_map.mp h
      obtain ⟨h1, h2⟩ := List.mem_filter.mp hx
      rcases (mem_ordN (n := n) (s := s)).mp h0 with ⟨_, h⟩ | ⟨a, b, c⟩
      · exact h.elim
      · refine .inr ⟨?_, by rw [List.length_append, b]; rfl, fun y hy => ?_⟩
        · rw [List.nodup_append]
          refine ⟨a, by simp, fun p hp q hq e => ?_⟩
          obtain rfl := List.mem_singleton.mp hq
          subst e
          simp at h2
          exact h2 hp
        · rcases List.mem_append.mp hy with hy | hy
          · exact c y hy
          · obtain rfl := List.mem_singleton.mp hy
            exact List.mem_range.mp h1
    · rintro (⟨_, h⟩ | ⟨a, b, c⟩)
      · exact h.elim
      · have hne : row ≠ [] := fun e => by subst e; cases b
        have e := List.dropLast_concat_getLast hne
        refine ⟨row.dropLast, (mem_ordN (n := n) (s := s)).mpr (.inr ⟨a.sublist (List.dropLast_sublist row), by rw [List.length_dropLast, b]; rfl, fun x hx => c x (List.dropLast_subset row hx)⟩), ?_⟩
        unfold ordS
        refine List.mem_map.mpr ⟨row.getLast hne, List.mem_filter.mpr ⟨List.mem_range.mpr (c _ (List.getLast_mem hne)), ?_⟩, e⟩
        have a' := a
        rw [← e, List.nodup_append] at a'
        simp only [Bool.not_eq_true', decide_eq_false_iff_not]
        exact fun h => a'.2.2 _ h _ (by simp) rfl
theorem mem_orders {n : Nat} {row : List Nat} : row ∈ ordersN n ↔ OrdOk row n := by
  unfold ordersN
  rw [mem_ordN]
  constructor
  · rintro (⟨_, h⟩ | ⟨a, b, c⟩)
    · exact h.elim
    · exact ⟨a, b, c⟩
  · intro h; exact .inr ⟨h.nd, h.len, h.lt⟩
theorem dn_inj {a b : Nat} (h : dn a = dn b) : a = b := by injection h with h; omega
theorem dns_inj : ∀ {a b : List Nat}, a.map dn = b.map dn → a = b
  | [], [], _ => rfl
  | [], _ :: _, h => by cases h
  | _ :: _, [], h => by cases h
  | x :: a, y :: b, h => by
    simp only [List.map_cons, List.cons.injEq] at h
    rw [dn_inj h.1, dns_inj h.2]
theorem dT_inj {a b : List Nat} (h : dT a = dT b) : a = b := by injection h with h; exact dns_inj h
theorem dL_inj {a b : List Nat} (h : dL a = dL b) : a = b := by injection h with h; exact dns_inj h
theorem dp_inj {a b : Tie} (h : dp a = dp b) : a = b := by
  injection h with h
  simp only [List.cons.injEq, D.int.injEq, and_true] at h
  exact Prod.ext (by omega) (by omega)
theorem dps_inj : ∀ {a b : List Tie}, a.map dp = b.map dp → a = b
  | [], [], _ => rfl
  | [], _ :: _, h => by cases h
  | _ :: _, [], h => by cases h
  | x :: a, y :: b, h => by
    simp only [List.map_cons, List.cons.injEq] at h
    rw [dp_inj h.1, dps_inj h.2]
theorem dW_inj {a b : Web} (h : dW a = dW b) : a = b := by
  injection h with h
  simp only [List.cons.injEq, D.int.injEq, D.tup.injEq, and_true] at h
  exact Prod.ext (by omega) (dps_inj h.2)
structure AOrders where
  (n : Nat)
abbrev spOrders : Sp := spT (α := AOrders) (fun a => [dn a.n]) (fun a _ => a.n ≤ 5) fun a m => Is (.lst ((ordersN a.n).map dT)) m
theorem b_orders {K : PySem.W.Frag} {n : Nat} {m : Mu} (hn : n ≤ 5) {A : List Anc} :
    Wp A (start0 6 [dn n]) m (t__law_orders K) (PFT (Is (.lst ((ordersN n).map dT)) m) m) := by
  unfold t__law_orders
  refine q_asg1 (d := .lst (([[]] : List (List Nat)).map dT)) (by walk_at "c") ?_
  refine q_forT (List.range n) (fun (k : Nat) => D.int (k : Int)) (fun i r' m' => ∃ o2 o3 o4 : Option D, r' = [some (dn n), some (.lst ((ordN n i).map dT)), o2, o3, o4, none] ∧ m' = m) (src_rngN (n := n) (by walk_at "e") (by omega)) ⟨none, none, none, rfl, rfl⟩ (fun _ _ _ _ => trivial) (fun B s a r' m' hB ha hj => ?_) fun r' m' hj => ?_
  · obtain ⟨o2, o3, o4, rfl, rfl⟩ := hj
    have hs : s < n := by have := (List.getElem?_eq_some_iff.mp ha).1; rw [List.length_range] at this; exact this
    have ea : a = s := by rw [List.getElem?_range hs] at ha; exact (Option.some.inj ha).symm
    subst ea
    have rl := ordN_len hn a
    have r5 : 5 ^ a ≤ 5 ^ 5 := Nat.pow_le_pow_right (by omega) (by omega)
    refine ⟨_, _, gd_name, q_asg1 (d := .lst (([] : List (List Nat)).map dT)) (by walk_at "c") ?_⟩
    refine q_forT (ordN n a) dT (fun i r' m'' => ∃ o4 : Option D, r' = [some (dn n), some (.lst ((ordN n a).map dT)), some (dn a), some (.lst ((((ordN n a).take i).flatMap (ordS n)).map dT)), o4, none] ∧ m'' = m') (src_list1 (by walk_at "e")) ⟨_, rfl, rfl⟩ (fun _ _ _ _ => trivial) (fun B2 i row r2 m2 hB2 hrow hj => ?_) fun r2 m2 hj => ?_
    · obtain ⟨o4, rfl, rfl⟩ := hj
      have hi : i < (ordN n a).length := (List.getElem?_eq_some_iff.mp hrow).1
      have rlen : row.length = a := by
        rcases mem_ordN.mp (List.mem_of_getElem? hrow) with ⟨_, h⟩ | h
        · exact h.elim
        · exact h.2.1
      have hXl : (((ordN n a).take i).flatMap (ordS n)).length ≤ 5 ^ 5 * 5 := by
        have := flat_len (ordS n) 5 ((ordN n a).take i) fun _ _ => Nat.le_trans (ordS_len n _) hn
        rw [List.length_take] at this
        omega
      refine ⟨_, _, gd_name, wp_asg (ev_mono (ev_to (d1 := .lst ((((ordN n a).take (i + 1)).flatMap (ordS n)).map dT)) (ev_catL (es := (ordS n row).map dT) (.inl rfl) (.inl rfl) (by walk_at "e") (ev_to (ev_lcT (List.range n) dn (fun x => dT (row ++ [x])) (fun x => !decide (x ∈ row)) (src_rngN (n := n) (by walk_at "e") (by omega)) trivial (fun x hx => ⟨_, [5], by simp, gd_name, evt_test1 (ev_notInTn (by walk_at "e") (by walk_at "e")), fun _ => ev_to (ev_catT (ds := row.map dn) (es := [dn x]) (by walk_at "e") (by walk_at "e") ?_) ?_⟩) (by rw [List.length_range]; omega)) ?_) ?_) ?_) fun d m3 e3 => ?_)⟩
      · rw [List.length_map]; show _ + 1 ≤ _; omega
      · show D.tup (row.map dn ++ [dn x]) = D.tup ((row ++ [x]).map dn)
        rw [List.map_append]; rfl
      · unfold ordS; rw [List.map_map]; rfl
      · rw [List.length_map, List.length_map]
        have := ordS_len n row
        omega
      · rw [List.take_succ, hrow, List.flatMap_append]
        simp
      · obtain ⟨rfl, rfl⟩ := e3
        exact ⟨_, rfl, rfl⟩
    · obtain ⟨o4, rfl, rfl⟩ := hj
      rw [List.take_length]
      refine wp_asg (ev_mono (ev_var rfl) fun d m3 e3 => ?_)
      obtain ⟨rfl, rfl⟩ := e3
      exact ⟨_, _, _, rfl, rfl⟩
  · obtain ⟨o2, o3, o4, rfl, rfl⟩ := hj
    rw [List.length_range]
    refine wp_ret (ev_mono (ev_var rfl) fun d m3 e3 => ?_)
    obtain ⟨rfl, rfl⟩ := e3
    show FinT _ _ _ _
    exact fin1 (.refl _) rfl
/-- the same web up to an order of the points -/
def alikeN (w v : Web) : Bool := if (!decide (w.1 = v.1) || !decide (w.2.length = v.2.length)) = true then false else !((ordersN w.1).filter fun L => decide (mvW L w = v)).isEmpty
structure AAlike where
  (w v : Web)
abbrev spAlike : Sp := spT (α := AAlike) (fun a => [dW a.w, dW a.v]) (fun a _ => WebOk a.w ∧ WebOk a.v) fun a m => Is (.bl (alikeN a.w a.v)) m
theorem b_alike {K : PySem.W.Frag} {w v : Web} {m : Mu} (h : WebOk w ∧ WebOk v) {A : List Anc} :
    Wp A (start0 3 [dW w, dW v]) m (t__law_alike K spOrders spMoved) (PFT (Is (.bl (alikeN w v)) m) m) := by
  obtain ⟨hw, hv⟩ := h
  have h5 := hw.hi
  unfold t__law_alike
  have hn : ∀ {r : Rho} {i : Nat} {w : Web}, r[i]? = some (some (dW w)) → Ev1 r m (tOp (rIxT K) (tVar i) (tC (.int 0))) (dn w.1) := fun h => ev_ixT (i := 0) (ev_var h) ev_int (atI_n (n := 0) rfl)
  have ht : ∀ {r : Rho} {i : Nat} {w : Web}, r[i]? = some (some (dW w)) → Ev1 r m (tOp (rIxT K) (tVar i) (tC (.int 1))) (.tup (w.2.map dp)) := fun h => ev_ixT (i := 1) (ev_var h) ev_int (atI_n (n := 1) rfl)
  refine q_if (b := !decide (w.1 = v.1) || !decide (w.2.length = v.2.length)) (evt_or1 (evt_t (ev_neI (hn rfl) (hn rfl)) (by rw [dec_nat])) fun _ => evt_t (ev_neI (ev_lenT (ht rfl)) (ev_lenT (ht rfl))) (by rw [dec_nat, List.length_map, List.length_map])) (fun e => ?_) fun e => ?_
  · refine wp_ret (ev_mono ev_bl fun d m3 e3 => ?_)
    obtain ⟨rfl, rfl⟩ := e3
    show FinT _ _ _ _
    unfold alikeN
    rw [if_pos e]
    exact fin1 (.refl _) rfl
  · have hE : alikeN w v = !((ordersN w.1).filter fun L => decide (mvW L w = v)).isEmpty := by
      unfold alikeN
      rw [e, if_neg Bool.false_ne_true]
    have r5 := ordN_len h5 w.1
    have r6 : 5 ^ w.1 ≤ 5 ^ 5 := Nat.pow_le_pow_right (by omega) (by omega)
    rw [hE]
    refine wp_ret (ev_mono (ev_to (d1 := .bl (!((ordersN w.1).filter fun L => decide (mvW L w = v)).isEmpty)) (lv_ne0 (.inl rfl) (ev_lcT (ordersN w.1) dT dT (fun L => decide (mvW L w = v)) (src_list1 (ev_callP (AOrders.mk w.1) (eva_cons1 (hn rfl) eva_nil) h5)) trivial (fun L hL => ⟨_, [2], by simp, gd_name, evt_test1 (ev_eqD (ev_callP (AMoved.mk w L (dT L)) (by walk_at "e") (hw.pm (mem_orders.mp hL) (.inl rfl))) (by walk_at "e") (okD_dW _) (okD_dW _) ?_), fun _ => by walk_at "e"⟩) ?_) (okD_Ts _)) ?_) fun d m3 e3 => ?_)
    · rw [decide_eq_true_iff]
      exact ⟨fun e => by rw [e], dW_inj⟩
    · unfold ordersN; omega
    · rw [isEmpty_map]
    · obtain ⟨rfl, rfl⟩ := e3
      show FinT _ _ _ _
      exact fin1 (.refl _) rfl
end Hue
namespace Hue
open PySem PySem.Spec PyProof.Rows L2 DL
/-- the evaluation of an expression that reckons alone -/
local macro_rules | `(tactic| walk_at "e") => `(tactic| first
  | (with_reducible apply ev_var); rfl
  | (with_reducible exact ev_int)
  | ((with_reducible refine ev_to ev_int ?_); rfl)
  | (with_reducible exact ev_bl)
  | (with_reducible exact ev_str)
  | (with_reducible exact ev_non)
  | (with_reducible exact eva_nil)
  | (with_reducible apply eva_cons1) <;> walk_at "e"
  | (with_reducible apply ev_tup1) <;> walk_at "e"
  | (with_reducible apply ev_add) <;> walk_at "e"
  | (with_reducible apply ev_sub) <;> walk_at "e"
  | (with_reducible apply ev_ixT) <;> walk_at "e"
  | (with_reducible apply ev_ixL) <;> (walk_at "e"; done)
  | (with_reducible apply ev_ixV) <;> walk_at "e"
  | (with_reducible apply ev_lt) <;> walk_at "e"
  | (with_reducible apply ev_le) <;> walk_at "e"
  | (with_reducible apply ev_gt) <;> walk_at "e"
  | (with_reducible apply ev_ge) <;> walk_at "e"
  | (with_reducible apply ev_eqI) <;> (walk_at "e"; done)
  | (with_reducible apply ev_neI) <;> (walk_at "e"; done)
  | (with_reducible apply ev_isN) <;> walk_at "e"
  | (with_reducible apply ev_notN) <;> walk_at "e"
  | (with_reducible apply ev_neg) <;> walk_at "e"
  | (with_reducible apply ev_min2) <;> walk_at "e"
  | (with_reducible apply ev_max2) <;> walk_at "e"
  | (with_reducible apply ev_lenT) <;> (walk_at "e"; done)
  | (with_reducible apply ev_lenL) <;> (walk_at "e"; done)
  | (with_reducible apply ev_lenV) <;> walk_at "e"
  | (with_reducible apply ev_lenD) <;> walk_at "e"
  | (with_reducible apply ev_lst1) <;> walk_at "e"
  | (with_reducible assumption)
  | (with_reducible rfl)
  | rfl
  | exact Nat.le_of_ble_eq_true rfl)
local macro_rules | `(tactic| walk_at "t") => `(tactic| first
  | (with_reducible apply evt_test1) <;> walk_at "e"
  | (with_reducible apply evt_B1) <;> walk_at "e"
  | (with_reducible apply evt_not1) <;> walk_at "t")
/-- the same, brought to the wanted form -/
local macro_rules | `(tactic| walk_at "c") => `(tactic| (refine ev_to (by walk_at "e") ?_; first | rfl | (simp only [D.int.injEq]; omega)))
/-! swaps -/
theorem getD_range {n i : Nat} (h : i < n) : (List.range n).getD i 0 = i := by
  rw [List.getD_eq_getElem?_getD, List.getElem?_range h]; rfl
theorem mvW_id {w : Web} (h : WebOk w) : mvW (List.range w.1) w = w := by
  have e : w.2.map (mvT (List.range w.1)) = w.2 := by
    conv => rhs; rw [← List.map_id w.2]
    apply List.map_congr_left
    intro t ht
    have := h.t t ht
    unfold mvT nrm
    rw [getD_range (by omega), getD_range this.2]
    exact Prod.ext (by show min _ _ = t.1; omega) (by show max _ _ = t.2; omega)
  unfold mvW
  rw [e, ← srt_uniq (List.Perm.refl w.2) (h.s.imp fun q => Nat.le_of_lt q) fun t ht => by have := h.t t ht; have := h.hi; omega]
theorem ord_id (n : Nat) : OrdOk (List.range n) n := .of (.refl _)
theorem alikeN_iff {w v : Web} : alikeN w v = true ↔ w.1 = v.1 ∧ ∃ L, OrdOk L w.1 ∧ mvW L w = v := by
  unfold alikeN
  constructor
  · intro h
    split at h
    · cases h
    · rename_i e
      simp only [Bool.or_eq_true, Bool.not_eq_true', decide_eq_false_iff_not, not_or, Decidable.not_not] at e
      refine ⟨e.1, ?_⟩
      cases hF : (ordersN w.1).filter fun L => decide (mvW L w = v) with
      | nil => rw [hF] at h; cases h
      | cons L _ =>
        have : L ∈ (ordersN w.1).filter fun L => decide (mvW L w = v) := by rw [hF]; exact List.mem_cons_self
        obtain ⟨h1, h2⟩ := List.mem_filter.mp this
        exact ⟨L, mem_orders.mp h1, of_decide_eq_true h2⟩
  · rintro ⟨e1, L, hL, e2⟩
    have e3 : w.2.length = v.2.length := by rw [← e2]; show _ = (srt _).length; rw [(srt_perm _).length_eq, List.length_map]
    rw [if_neg (by simp [e1, e3])]
    cases hF : (ordersN w.1).filter fun L => decide (mvW L w = v) with
    | nil =>
      have : L ∈ (ordersN w.1).filter fun L => decide (mvW L w = v) := List.mem_filter.mpr ⟨mem_orders.mpr hL, decide_eq_true e2⟩
      rw [hF] at this
      cases this
    | cons _ _ => rfl
theorem alikeN_refl {w : Web} (h : WebOk w) : alikeN w w = true := alikeN_iff.mpr ⟨rfl, _, ord_id _, mvW_id h⟩
def kindN (ws : List Web) (w : Web) : Nat := ((List.range ws.length).filter fun k => alikeN (nWeb ws k) w).headD 0
def swapsN (ws : List Web) : List (List Nat) := (ordersN ws.length).filter fun row => decide ((row.map fun k => kindN ws (nWeb ws k)) = ws.map (kindN ws))
theorem kind_ne {ws : List Web} (h : DemOk ws) {w : Web} (hw : w ∈ ws) : ((List.range ws.length).filter fun k => alikeN (nWeb ws k) w) ≠ [] := by
  obtain ⟨i, hi, e⟩ := List.mem_iff_getElem.mp hw
  have : i ∈ (List.range ws.length).filter fun k => alikeN (nWeb ws k) w := by
    refine List.mem_filter.mpr ⟨List.mem_range.mpr hi, ?_⟩
    have : nWeb ws i = w := by have := nWeb_at hi; rw [List.getElem?_eq_getElem hi, e] at this; exact (Option.some.inj this).symm
    show alikeN (nWeb ws i) w = true
    rw [this]
    exact alikeN_refl (h.w w hw)
  intro e2
  rw [e2] at this
  cases this
structure ASwaps where
  (ws : List Web)
abbrev spSwaps : Sp := spT (α := ASwaps) (fun a => [dDm a.ws]) (fun a _ => DemOk a.ws) fun a m => Is (.lst ((swapsN a.ws).map dT)) m
theorem kinds_at {ws : List Web} {k : Nat} (hk : k < ws.length) : (ws.map (kindN ws))[k]? = some (kindN ws (nWeb ws k)) := by
  rw [List.getElem?_map, nWeb_at hk]; rfl
theorem b_swaps {K : PySem.W.Frag} {ws : List Web} {m : Mu} (h : DemOk ws) {A : List Anc} (hA : ∀ B ∈ A, B.M = dm m) :
    Wp A (start0 5 [dDm ws]) m (t__law_swaps K spOrders spAlike) (PFT (Is (.lst ((swapsN ws).map dT)) m) m) := by
  have h4 := h.hi
  unfold t__law_swaps
  refine q_asgV (ev_lstV eva_nil) fun l hl => ?_
  refine q_forT ws dW (fun i r' m' => ∃ o2 : Option D, r' = [some (dDm ws), some (.vol l), o2, none, none] ∧ m' = pt m l (.lst (((ws.take i).map (kindN ws)).map dn))) (src_tup1 (by walk_at "e")) ⟨none, rfl, rfl⟩ (fun _ _ _ _ => trivial) (fun B i w r' m' hB ha hj => ?_) fun r' m' hj => ?_
  · obtain ⟨o2, rfl, rfl⟩ := hj
    have hi : i < ws.length := (List.getElem?_eq_some_iff.mp ha).1
    have hw : w ∈ ws := List.mem_of_getElem? ha
    refine ⟨_, _, gd_name, wp_drop (ev_mono (ev_append1 (d := dn (kindN ws w)) (by walk_at "e") pt_same (ev_ixL (i := 0) (ev_lcT (List.range ws.length) dn dn (fun k => alikeN (nWeb ws k) w) (src_rngN (n := ws.length) (eva_cons1 (ev_to (ev_lenT (by walk_at "e")) (by rw [List.length_map])) eva_nil) (by omega)) trivial (fun k hk => ⟨_, [3], by simp, gd_name, evt_B1 (ev_callP (AAlike.mk (nWeb ws k) w) (eva_cons1 (ev_web (by walk_at "e") (by walk_at "e") (List.mem_range.mp hk)) (by walk_at "e")) ⟨h.w _ (nWeb_mem (List.mem_range.mp hk)), h.w w hw⟩), fun _ => by walk_at "e"⟩) (by rw [List.length_range]; omega)) ev_int (atI_n (n := 0) ?_)) ?_) fun d m3 e3 => ?_)⟩
    · have := kind_ne h hw
      unfold kindN
      cases hF : (List.range ws.length).filter fun k => alikeN (nWeb ws k) w with
      | nil => exact absurd hF this
      | cons k r => rfl
    · rw [List.length_map, List.length_map, List.length_take]; omega
    · obtain ⟨rfl, rfl⟩ := e3
      refine ⟨_, rfl, ?_⟩
      rw [pt_pt, List.take_succ, ha]
      simp
  · obtain ⟨o2, rfl, rfl⟩ := hj
    rw [List.take_length]
    refine wp_freeze (i := 1) rfl pt_same rfl (fun B' hB' => ?_) ?_
    · rw [hA B' hB']; exact hl
    rw [rm_pt hl]
    have r5 := ordN_len (n := ws.length) (by omega) ws.length
    have r6 : 5 ^ ws.length ≤ 5 ^ 5 := Nat.pow_le_pow_right (by omega) (by omega)
    refine wp_ret (ev_mono (ev_lcT (ordersN ws.length) dT dT (fun row => decide ((row.map fun k => kindN ws (nWeb ws k)) = ws.map (kindN ws))) (src_list1 (ev_callP (AOrders.mk ws.length) (eva_cons1 (ev_to (ev_lenT (by walk_at "e")) (by rw [List.length_map])) eva_nil) (by show ws.length ≤ 5; omega))) trivial (fun row hrow => ⟨_, [4], by simp, gd_name, evt_test1 (ev_eqD (d1 := dL (row.map fun k => kindN ws (nWeb ws k))) (ev_to (ev_lcM row dn (fun k => dn (kindN ws (nWeb ws k))) (src_tup1 (by walk_at "e")) trivial (fun k hk => ⟨_, [3], by simp, gd_name, ev_ixL (by walk_at "e") (by walk_at "e") (atI_n ?_)⟩) ?_) ?_) (by walk_at "e") (okD_dL _) (okD_dL _) ?_), fun _ => by walk_at "e"⟩) ?_) fun d m3 e3 => ?_)
    · rw [List.getElem?_map, kinds_at ((mem_orders.mp hrow).lt k hk)]; rfl
    · rw [(mem_orders.mp hrow).len]; omega
    · unfold dL; rw [List.map_map]; rfl
    · rw [decide_eq_true_iff]
      exact ⟨fun e => by rw [e], fun e => dL_inj e⟩
    · unfold ordersN; omega
    · obtain ⟨rfl, rfl⟩ := e3
      show FinT _ _ _ _
      exact fin1 (.refl _) rfl
end Hue
namespace Hue
open PySem PySem.Spec PyProof.Rows L2 DL
/-- the evaluation of an expression that reckons alone -/
local macro_rules | `(tactic| walk_at "e") => `(tactic| first
  | (with_reducible apply ev_var); rfl
  | (with_reducible exact ev_int)
  | ((with_reducible refine ev_to ev_int ?_); rfl)
  | (with_reducible exact ev_bl)
  | (with_reducible exact ev_str)
  | (with_reducible exact ev_non)
  | (with_reducible exact eva_nil)
  | (with_reducible apply eva_cons1) <;> walk_at "e"
  | (with_reducible apply ev_tup1) <;> walk_at "e"
  | (with_reducible apply ev_add) <;> walk_at "e"
  | (with_reducible apply ev_sub) <;> walk_at "e"
  | (with_reducible apply ev_ixT) <;> walk_at "e"
  | (with_reducible apply ev_ixL) <;> (walk_at "e"; done)
  | (with_reducible apply ev_ixV) <;> walk_at "e"
  | (with_reducible apply ev_lt) <;> walk_at "e"
  | (with_reducible apply ev_le) <;> walk_at "e"
  | (with_reducible apply ev_gt) <;> walk_at "e"
  | (with_reducible apply ev_ge) <;> walk_at "e"
  | (with_reducible apply ev_eqI) <;> (walk_at "e"; done)
  | (with_reducible apply ev_neI) <;> (walk_at "e"; done)
  | (with_reducible apply ev_isN) <;> walk_at "e"
  | (with_reducible apply ev_notN) <;> walk_at "e"
  | (with_reducible apply ev_neg) <;> walk_at "e"
  | (with_reducible apply ev_min2) <;> walk_at "e"
  | (with_reducible apply ev_max2) <;> walk_at "e"
  | (with_reducible apply ev_lenT) <;> (walk_at "e"; done)
  | (with_reducible apply ev_lenL) <;> (walk_at "e"; done)
  | (with_reducible apply ev_lenV) <;> walk_at "e"
  | (with_reducible apply ev_lenD) <;> walk_at "e"
  | (with_reducible apply ev_lst1) <;> walk_at "e"
  | (with_reducible assumption)
  | (with_reducible rfl)
  | rfl
  | exact Nat.le_of_ble_eq_true rfl)
local macro_rules | `(tactic| walk_at "t") => `(tactic| first
  | (with_reducible apply evt_test1) <;> walk_at "e"
  | (with_reducible apply evt_B1) <;> walk_at "e"
  | (with_reducible apply evt_not1) <;> walk_at "t")
/-- the same, brought to the wanted form -/
local macro_rules | `(tactic| walk_at "c") => `(tactic| (refine ev_to (by walk_at "e") ?_; first | rfl | (simp only [D.int.injEq]; omega)))
/-! the program: ways between webs -/
theorem ev_notNR {r : Rho} {m : Mu} {te : TE} {R R1 : RR} (h : Ev r m te R1) (k : ∀ d m', R1 d m' → R (.bl (!isNonD d)) m') : Ev r m (tNotN te) R := fun z σ H e v Q q => h z σ H e v _ fun x H1 d' m1 s a p => by
  rw [non_ok a]; exact q _ H1 _ _ s mk_bl (k _ _ p)
def mayN (w v : Web) (way : List Nat) (p : Nat) : Bool := !decide (p ∈ way) && (List.range way.length).all fun j => decide ((j, way.length) ∈ w.2) == decide (nrm (way.getD j 0) p ∈ v.2)
theorem mayN_iff {w v : Web} {way : List Nat} {p : Nat} : mayN w v way p = true ↔ p ∉ way ∧ ∀ j, j < way.length → ((j, way.length) ∈ w.2 ↔ nrm (way.getD j 0) p ∈ v.2) := by
  unfold mayN
  simp only [Bool.and_eq_true, Bool.not_eq_true', decide_eq_false_iff_not, List.all_eq_true, List.mem_range, beq_iff_eq, decide_eq_decide]
structure AMay where
  (w v : Web) (way : List Nat) (p : Nat)
abbrev spMay : Sp := spT (α := AMay) (fun a => [dW a.w, dW a.v, dT a.way, dn a.p, .bl true]) (fun _ _ => True) fun a m => Is (.bl (mayN a.w a.v a.way a.p)) m
theorem dp_mem {t : Tie} {L : List Tie} : decide (t ∈ L) = true ↔ dp t ∈ L.map dp := by
  rw [decide_eq_true_iff]
  constructor
  · exact fun h => List.mem_map.mpr ⟨t, h, rfl⟩
  · intro h
    obtain ⟨u, hu, e⟩ := List.mem_map.mp h
    rw [← dp_inj e]; exact hu
theorem ev_ties {K : PySem.W.Frag} {r : Rho} {m : Mu} {i : Nat} {w : Web} (h : r[i]? = some (some (dW w))) : Ev1 r m (tOp (rIxT K) (tVar i) (tC (.int 1))) (.tup (w.2.map dp)) := ev_ixT (i := 1) (ev_var h) ev_int (atI_n (n := 1) rfl)
theorem ev_many {K : PySem.W.Frag} {r : Rho} {m : Mu} {i : Nat} {w : Web} (h : r[i]? = some (some (dW w))) : Ev1 r m (tOp (rIxT K) (tVar i) (tC (.int 0))) (dn w.1) := ev_ixT (i := 0) (ev_var h) ev_int (atI_n (n := 0) rfl)
theorem b_may {K : PySem.W.Frag} {w v : Web} {way : List Nat} {p : Nat} {m : Mu} {A : List Anc} :
    Wp A (start0 9 [dW w, dW v, dT way, dn p, .bl true]) m (t_may_go K) (PFT (Is (.bl (mayN w v way p)) m) m) := by
  unfold t_may_go
  refine q_if (b := decide (p ∈ way)) (evt_test1 (ev_inTn (by walk_at "e") (by walk_at "e"))) (fun e => ?_) fun e => ?_
  · refine wp_ret (ev_mono ev_bl fun d m3 e3 => ?_)
    obtain ⟨rfl, rfl⟩ := e3
    have hf : mayN w v way p = false := by unfold mayN; rw [e]; rfl
    rw [hf]
    show FinT _ _ _ _
    exact fin1 (.refl _) rfl
  have hp : p ∉ way := of_decide_eq_false e
  refine q_for (fun i r' m' => ∃ o5 o6 o7 o8 : Option D, r' = [some (dW w), some (dW v), some (dT way), some (dn p), some (.bl true), o5, o6, o7, o8] ∧ m' = m ∧ ∀ j, j < i → j < way.length → ((j, way.length) ∈ w.2 ↔ nrm (way.getD j 0) p ∈ v.2)) (src_enumT (by walk_at "e")) ⟨none, none, none, none, rfl, rfl, fun j h => by omega⟩ (fun _ _ _ _ => trivial) (fun B i d r' m' hB hd hj => ?_) fun r' m' hj => ?_
  · obtain ⟨o5, o6, o7, o8, rfl, rfl, hall⟩ := hj
    obtain ⟨e1, he, rfl⟩ := enumD_get hd
    rw [List.getElem?_map] at he
    obtain ⟨q, hq, rfl⟩ := Option.map_eq_some_iff.mp he
    have hi : i < way.length := (List.getElem?_eq_some_iff.mp hq).1
    have eq : way.getD i 0 = q := by rw [List.getD_eq_getElem?_getD, hq]; rfl
    refine ⟨_, _, gd_tup (gdl_cons gd_name (gdl_cons gd_name gdl_nil)), q_asg1 (d := .bl (decide ((i, way.length) ∈ w.2))) (ev_op1 (d1 := dp (i, way.length)) (ev_tup1 (eva_cons1 (by walk_at "e") (eva_cons1 (ev_to (ev_lenT (by walk_at "e")) (by rw [List.length_map])) eva_nil))) (ev_ties rfl) (o_inDT (okD_dp _) (okD_dps _) dp_mem)) ?_⟩
    refine q_asg1 (d := .bl (decide (nrm q p ∈ v.2))) (ev_op1 (d1 := dp (nrm q p)) (by rw [dp_nrm]; walk_at "e") (ev_ties rfl) (o_inDT (okD_dp _) (okD_dps _) dp_mem)) ?_
    refine wp_ifs1 (b := (decide ((i, way.length) ∈ w.2) && !decide (nrm q p ∈ v.2)) || (true && (decide (nrm q p ∈ v.2) && !decide ((i, way.length) ∈ w.2)))) (evt_or1 (evt_and1 (evt_B1 (by walk_at "e")) fun _ => evt_not1 (evt_B1 (by walk_at "e"))) fun _ => evt_and1 (evt_B1 (by walk_at "e")) fun _ => evt_and1 (evt_B1 (by walk_at "e")) fun _ => evt_not1 (evt_B1 (by walk_at "e"))) (fun e => ?_) fun e => wp_next ⟨_, _, _, _, rfl, rfl, fun j hj hjl => ?_⟩
    · refine wp_ret (ev_mono ev_bl fun d m3 e3 => ?_)
      obtain ⟨rfl, rfl⟩ := e3
      have hf : mayN w v way p = false := by
        cases hm : mayN w v way p with
        | false => rfl
        | true =>
          have := (mayN_iff.mp hm).2 i hi
          rw [eq] at this
          simp [this] at e
      rw [hf]
      show FinT _ _ _ _
      exact fin1 (.refl _) rfl
    · rcases Nat.lt_or_ge j i with h | h
      · exact hall j h hjl
      · have : j = i := by omega
        subst this
        rw [eq]
        by_cases h1 : (j, way.length) ∈ w.2 <;> by_cases h2 : nrm q p ∈ v.2 <;> simp [h1, h2] at e ⊢
  · obtain ⟨o5, o6, o7, o8, rfl, rfl, hall⟩ := hj
    rw [enumD_len, List.length_map] at hall
    refine wp_ret (ev_mono ev_bl fun d m3 e3 => ?_)
    obtain ⟨rfl, rfl⟩ := e3
    have hf : mayN w v way p = true := mayN_iff.mpr ⟨hp, fun j hj => hall j hj hj⟩
    rw [hf]
    show FinT _ _ _ _
    exact fin1 (.refl _) rfl
def longN (w v : Web) (way : List Nat) : List (List Nat) := ((List.range v.1).filter (mayN w v way)).map fun x => way ++ [x]
structure ALong where
  (w v : Web) (way : List Nat)
abbrev spLong : Sp := spT (α := ALong) (fun a => [dW a.w, dW a.v, dT a.way, .bl true]) (fun a _ => a.v.1 ≤ 5 ∧ a.way.length ≤ 5) fun a m => Is (.lst ((longN a.w a.v a.way).map dT)) m
theorem b_long {K : PySem.W.Frag} {w v : Web} {way : List Nat} {m : Mu} (h : v.1 ≤ 5 ∧ way.length ≤ 5) {A : List Anc} :
    Wp A (start0 5 [dW w, dW v, dT way, .bl true]) m (t_longer_ways K spMay) (PFT (Is (.lst ((longN w v way).map dT)) m) m) := by
  obtain ⟨h5, hl⟩ := h
  unfold t_longer_ways
  refine wp_ret (ev_mono (ev_to (d1 := .lst ((longN w v way).map dT)) (ev_lcT (List.range v.1) dn (fun x => dT (way ++ [x])) (mayN w v way) (src_rngN (n := v.1) (eva_cons1 (ev_many rfl) eva_nil) (by omega)) trivial (fun x hx => ⟨_, [4], by simp, gd_name, evt_B1 (ev_callP (AMay.mk w v way x) (by walk_at "e") trivial), fun _ => ev_to (ev_catT (ds := way.map dn) (es := [dn x]) (by walk_at "e") (by walk_at "e") ?_) ?_⟩) (by rw [List.length_range]; omega)) ?_) fun d m3 e3 => ?_)
  · rw [List.length_map]; show _ + 1 ≤ _; omega
  · show D.tup (way.map dn ++ [dn x]) = D.tup ((way ++ [x]).map dn)
    rw [List.map_append]; rfl
  · unfold longN; rw [List.map_map]; rfl
  · obtain ⟨rfl, rfl⟩ := e3
    show FinT _ _ _ _
    exact fin1 (.refl _) rfl
/-- a way, so far as it goes -/
structure Part (w v : Web) (L : List Nat) : Prop where
  nd : L.Nodup
  lt : ∀ x ∈ L, x < v.1
  t : ∀ i j, i < j → j < L.length → ((i, j) ∈ w.2 ↔ nrm (L.getD i 0) (L.getD j 0) ∈ v.2)
structure Full (w v : Web) (L : List Nat) : Prop where
  p : Part w v L
  l : L.length = w.1
theorem getD_left {L M : List Nat} {i : Nat} (h : i < L.length) : (L ++ M).getD i 0 = L.getD i 0 := by
  rw [List.getD_eq_getElem?_getD, List.getD_eq_getElem?_getD, List.getElem?_append_left h]
theorem getD_mid {L : List Nat} {x : Nat} : (L ++ [x]).getD L.length 0 = x := by
  rw [List.getD_eq_getElem?_getD, List.getElem?_append_right (Nat.le_refl _), Nat.sub_self]; rfl
theorem part_snoc {w v : Web} {L : List Nat} {x : Nat} : Part w v (L ++ [x]) ↔ Part w v L ∧ x < v.1 ∧ mayN w v L x = true := by
  rw [mayN_iff]
  constructor
  · intro h
    have nd := h.nd
    rw [List.nodup_append] at nd
    refine ⟨⟨nd.1, fun y hy => h.lt y (List.mem_append_left _ hy), fun i j hij hj => ?_⟩, h.lt x (by simp), fun hx => nd.2.2 x hx x (by simp) rfl, fun j hj => ?_⟩
    · have := h.t i j hij (by rw [List.length_append]; omega)
      rw [getD_left (by omega), getD_left hj] at this
      exact this
    · have := h.t j L.length hj (by rw [List.length_append]; show _ < _ + 1; omega)
      rw [getD_left hj, getD_mid] at this
      exact this
  · rintro ⟨h, hx, hn, ht⟩
    refine ⟨?_, fun y hy => ?_, fun i j hij hj => ?_⟩
    · rw [List.nodup_append]
      exact ⟨h.nd, by simp, fun a ha b hb e => by
        obtain rfl := List.mem_singleton.mp hb
        subst e; exact hn ha⟩
    · rcases List.mem_append.mp hy with hy | hy
      · exact h.lt y hy
      · obtain rfl := List.mem_singleton.mp hy; exact hx
    · rw [List.length_append] at hj
      have hj : j < L.length + 1 := hj
      rcases Nat.lt_or_ge j L.length with hl | hl
      · rw [getD_left (by omega), getD_left hl]; exact h.t i j hij hl
      · have : j = L.length := by omega
        subst this
        rw [getD_left hij, getD_mid]; exact ht i hij
theorem part_nil {w v : Web} : Part w v [] := ⟨List.nodup_nil, by simp, fun i j _ h => by cases h⟩
theorem part_pre {w v : Web} {L y : List Nat} (h : Part w v L) (hp : y <+: L) : Part w v y := by
  obtain ⟨t, rfl⟩ := hp
  have nd := h.nd
  rw [List.nodup_append] at nd
  refine ⟨nd.1, fun x hx => h.lt x (List.mem_append_left _ hx), fun i j hij hj => ?_⟩
  have := h.t i j hij (by rw [List.length_append]; omega)
  rw [getD_left (by omega), getD_left hj] at this
  exact this
def wt (y : List Nat) : Nat := 6 ^ (6 - y.length)
def mu (W : List (List Nat)) : Nat := (W.map wt).sum
theorem mu_len : ∀ W : List (List Nat), W.length ≤ mu W
  | [] => Nat.le_refl _
  | y :: W => by
    have := mu_len W
    have : 1 ≤ wt y := Nat.pow_pos (by omega)
    show W.length + 1 ≤ wt y + mu W
    omega
theorem mu_app (W V : List (List Nat)) : mu (W ++ V) = mu W + mu V := by unfold mu; rw [List.map_append, List.sum_append]
theorem mu_rev (W : List (List Nat)) : mu W.reverse = mu W := by
  induction W with
  | nil => rfl
  | cons y W ih =>
    rw [List.reverse_cons, mu_app, ih]
    show mu W + (wt y + 0) = wt y + mu W
    omega
theorem mu_same {c : Nat} : ∀ W : List (List Nat), (∀ y ∈ W, wt y = c) → mu W = W.length * c
  | [], _ => by rw [List.length_nil, Nat.zero_mul]; rfl
  | y :: W, h => by
    show wt y + mu W = (W.length + 1) * c
    rw [mu_same W fun z hz => h z (List.mem_cons_of_mem _ hz), h y List.mem_cons_self, Nat.succ_mul]
    omega
theorem mu_long {w v : Web} {y : List Nat} (h5 : v.1 ≤ 5) (hy : y.length ≤ 5) : mu (longN w v y) < wt y := by
  have h1 : mu (longN w v y) = (longN w v y).length * 6 ^ (5 - y.length) := mu_same _ fun z hz => by
    unfold longN at hz
    obtain ⟨x, _, rfl⟩ := List.mem_map.mp hz
    unfold wt
    rw [List.length_append]
    congr 1
    show 6 - (y.length + 1) = _
    omega
  have h2 : (longN w v y).length ≤ 5 := by
    unfold longN
    rw [List.length_map]
    exact Nat.le_trans (List.length_filter_le _ _) (by rw [List.length_range]; exact h5)
  have h3 : wt y = 6 * 6 ^ (5 - y.length) := by
    unfold wt
    have e : 6 - y.length = (5 - y.length) + 1 := by omega
    rw [e, Nat.pow_succ, Nat.mul_comm]
  have h4 : 0 < 6 ^ (5 - y.length) := Nat.pow_pos (by omega)
  rw [h1, h3]
  exact Nat.mul_lt_mul_of_pos_right (by omega) h4
structure AFirst where
  (w v : Web)
structure QFirst (w v : Web) (d : D) (m m' : Mu) : Prop where
  d : d = .non ∧ (¬ ∃ L, Full w v L) ∨ ∃ L, d = dT L ∧ Full w v L
  m : m' = m
abbrev spFirst : Sp := spT (α := AFirst) (fun a => [dW a.w, dW a.v, .bl true]) (fun a _ => a.w.1 ≤ 5 ∧ a.v.1 ≤ 5) fun a m d m' => QFirst a.w a.v d m m'
theorem b_first {K : PySem.W.Frag} {w v : Web} {m : Mu} (h : w.1 ≤ 5 ∧ v.1 ≤ 5) {A : List Anc} :
    Wp A (start0 5 [dW w, dW v, .bl true]) m (t_first_way K spLong) (PFT (fun d m' => QFirst w v d m m') m) := by
  obtain ⟨hw, hv⟩ := h
  unfold t_first_way
  refine q_asgV (c := .lst [.tup []]) (ev_lstV (eva_cons1 (ev_tup1 eva_nil) eva_nil)) fun l hl => ?_
  refine q_cut (fun r' m' => ∃ o4 : Option D, r' = [some (dW w), some (dW v), some (.bl true), some (.vol l), o4] ∧ (¬ ∃ L, Full w v L) ∧ ∃ c, m' = pt m l c) (wp_while (fun n r' m' => ∃ (W : List (List Nat)) (o4 : Option D), r' = [some (dW w), some (dW v), some (.bl true), some (.vol l), o4] ∧ m' = pt m l (.lst (W.map dT)) ∧ mu W = n ∧ n ≤ 46656 ∧ (∀ y ∈ W, Part w v y ∧ y.length ≤ w.1) ∧ ∀ L, Full w v L → ∃ y ∈ W, y <+: L) ⟨_, [[]], none, rfl, rfl, rfl, by decide, fun y hy => ?_, fun L hL => ⟨[], by simp, List.nil_prefix⟩⟩ fun n r' m' hj => ?_) fun r' m' hj => ?_
  · obtain rfl := List.mem_singleton.mp hy
    exact ⟨part_nil, Nat.zero_le _⟩
  · obtain ⟨W, o4, rfl, rfl, rfl, hn, hW, hL⟩ := hj
    refine evt_mono (evt_test1 (lv_ne0 (.inr ⟨l, rfl, pt_same⟩) (by walk_at "e") (okD_Ts W))) fun b m2 e => ?_
    obtain ⟨rfl, rfl⟩ := e
    rw [isEmpty_map]
    rcases List.eq_nil_or_concat W with rfl | ⟨V, y, rfl⟩
    · rw [if_neg (by decide)]
      refine ⟨_, rfl, ?_, _, rfl⟩
      rintro ⟨L, h⟩
      obtain ⟨y, hy, _⟩ := hL L h
      cases hy
    rw [List.concat_eq_append] at *
    rw [if_pos (by simp)]
    obtain ⟨yp, yl⟩ := hW y (by simp)
    refine q_asg (R := Is (dT y) (pt m l (.lst (V.map dT)))) (ev_mono (ev_pop (d := dT y) (by walk_at "e") pt_same (by simp)) fun d m3 e3 => ⟨e3.1, by rw [e3.2, pt_pt]; simp⟩) fun d m3 e3 => ?_
    obtain ⟨rfl, rfl⟩ := e3
    refine q_if (b := decide (y.length = w.1)) (evt_t (ev_eqI (ev_lenT (by walk_at "e")) (ev_many rfl)) (by rw [dec_nat, List.length_map])) (fun e => ?_) fun e => ?_
    · have e := of_decide_eq_true e
      refine wp_ret (ev_mono (ev_var rfl) fun d m4 e4 => ?_)
      obtain ⟨rfl, rfl⟩ := e4
      show FinT _ _ _ _
      exact ⟨m, .new hl, fun _ h => h, .inr ⟨y, rfl, yp, e⟩, rfl⟩
    · have e := of_decide_eq_false e
      have hm := mu_long (w := w) hv (y := y) (by omega)
      have e1 : mu (V ++ [y]) = mu V + wt y := by rw [mu_app]; rfl
      have e2 : mu (V ++ (longN w v y).reverse) = mu V + mu (longN w v y) := by rw [mu_app, mu_rev]
      have hl1 := mu_len (V ++ (longN w v y).reverse)
      rw [List.length_append, List.length_reverse] at hl1
      refine wp_drop (ev_extend (R1 := IsL [.lst ((longN w v y).map dT).reverse] (pt m l (.lst (V.map dT)))) (by walk_at "e") pt_same (eva_cons1 (ev_revL (ev_callP (ALong.mk w v y) (by walk_at "e") ⟨hv, by show y.length ≤ 5; omega⟩) fun d m4 e4 => ?_) eva_nil) fun as m4 e4 => ?_)
      · obtain ⟨rfl, rfl⟩ := e4
        exact ⟨_, rfl, rfl, rfl⟩
      · obtain ⟨rfl, rfl⟩ := e4
        refine ⟨_, _, rfl, pt_same, by rw [List.length_map, List.length_reverse, List.length_map]; omega, mu (V ++ (longN w v y).reverse), by omega, V ++ (longN w v y).reverse, _, rfl, by rw [pt_pt]; simp, rfl, by omega, fun z hz => ?_, fun L hf => ?_⟩
        · rcases List.mem_append.mp hz with hz | hz
          · exact hW z (List.mem_append_left _ hz)
          · rw [List.mem_reverse] at hz
            unfold longN at hz
            obtain ⟨x, hx, rfl⟩ := List.mem_map.mp hz
            obtain ⟨h1, h2⟩ := List.mem_filter.mp hx
            exact ⟨part_snoc.mpr ⟨yp, List.mem_range.mp h1, h2⟩, by rw [List.length_append]; show _ + 1 ≤ _; omega⟩
        · obtain ⟨z, hz, hzp⟩ := hL L hf
          rcases List.mem_append.mp hz with hz | hz
          · exact ⟨z, List.mem_append_left _ hz, hzp⟩
          · obtain rfl := List.mem_singleton.mp hz
            obtain ⟨t, rfl⟩ := hzp
            cases t with
            | nil => exact absurd (by have := hf.l; rw [List.append_nil] at this; exact this) e
            | cons x t =>
              have h1 : z ++ [x] <+: z ++ x :: t := ⟨t, by simp⟩
              obtain ⟨_, h2, h3⟩ := part_snoc.mp (part_pre hf.p h1)
              refine ⟨z ++ [x], List.mem_append_right _ (List.mem_reverse.mpr ?_), h1⟩
              unfold longN
              exact List.mem_map.mpr ⟨x, List.mem_filter.mpr ⟨List.mem_range.mpr h2, h3⟩, rfl⟩
  · obtain ⟨o4, rfl, hno, c, rfl⟩ := hj
    refine wp_ret (ev_mono ev_non fun d m4 e4 => ?_)
    obtain ⟨rfl, rfl⟩ := e4
    show FinT _ _ _ _
    exact ⟨m, .new hl, fun _ h => h, .inl ⟨rfl, hno⟩, rfl⟩
/-- the same web -/
def Iso (w v : Web) : Prop := w.1 = v.1 ∧ ∃ L, Full w v L
structure QLike (w v : Web) (d : D) (m m' : Mu) : Prop where
  d : isNonD d = false ↔ Iso w v
  m : m' = m
abbrev spLikeWay : Sp := spT (α := AFirst) (fun a => [dW a.w, dW a.v]) (fun a _ => a.w.1 ≤ 5 ∧ a.v.1 ≤ 5) fun a m d m' => QLike a.w a.v d m m'
theorem b_likeWay {K : PySem.W.Frag} {w v : Web} {m : Mu} (h : w.1 ≤ 5 ∧ v.1 ≤ 5) {A : List Anc} :
    Wp A (start0 2 [dW w, dW v]) m (t_like_way K spFirst) (PFT (fun d m' => QLike w v d m m') m) := by
  unfold t_like_way
  refine q_if (b := !decide (w.1 = v.1)) (evt_t (ev_neI (ev_many rfl) (ev_many rfl)) (by rw [dec_nat])) (fun e => ?_) fun e => ?_
  · refine wp_ret (ev_mono ev_non fun d m4 e4 => ?_)
    obtain ⟨rfl, rfl⟩ := e4
    show FinT _ _ _ _
    refine fin_same (fun _ h => h) ⟨⟨fun h => (by cases h), fun h => ?_⟩, rfl⟩
    simp [h.1] at e
  · have e : w.1 = v.1 := by simpa using e
    refine wp_ret (ev_callT1 (AFirst.mk w v) (by walk_at "e") h fun d m4 q => ?_)
    obtain ⟨q, rfl⟩ := q
    show FinT _ _ _ _
    refine fin_same (fun _ h => h) ⟨?_, rfl⟩
    rcases q with ⟨rfl, hn⟩ | ⟨L, rfl, hf⟩
    · exact ⟨fun h => (by cases h), fun h => absurd h.2 hn⟩
    · exact ⟨fun _ => ⟨e, L, hf⟩, fun _ => rfl⟩
open Classical in
noncomputable def isoB (w v : Web) : Bool := decide (Iso w v)
theorem isoB_iff {w v : Web} : isoB w v = true ↔ Iso w v := by unfold isoB; exact @decide_eq_true_iff _ (Classical.propDecidable _)
noncomputable def likesB (ws : List Web) (w : Web) : List Nat := (List.range ws.length).filter fun c => isoB w (nWeb ws c)
def exS (likes row : List Nat) : List (List Nat) := (likes.filter fun c => !decide (c ∈ row)).map fun c => row ++ [c]
noncomputable def exN (ws : List Web) : Nat → List (List Nat)
  | 0 => [[]]
  | i + 1 => (exN ws i).flatMap (exS (likesB ws (nWeb ws i)))
theorem zip_snd {α : Type} (P : Nat → Bool) (F : Nat → D) (xs : List α) : (xs.zipIdx.filter fun q => P q.2).map (fun q => F q.2) = ((List.range xs.length).filter P).map F := by
  have e : List.range xs.length = xs.zipIdx.map Prod.snd := by rw [List.zipIdx_map_snd, List.range_eq_range']
  rw [e, List.filter_map, List.map_map]
  rfl
def unD : D → Nat
  | .int i => i.toNat
  | _ => 0
def unT : D → List Nat
  | .tup ds => ds.map unD
  | _ => []
theorem unD_dn (n : Nat) : unD (dn n) = n := by show ((n : Int)).toNat = n; exact Int.toNat_natCast n
theorem unT_dT (L : List Nat) : unT (dT L) = L := by
  show (L.map dn).map unD = L
  rw [List.map_map]
  conv => rhs; rw [← List.map_id L]
  exact List.map_congr_left fun x _ => unD_dn x
theorem ex_row (M row : List Nat) : (((M.map dn).filter fun e => !decide (unD e ∈ unT (dT row))).map fun e => dT (unT (dT row) ++ [unD e])) = (exS M row).map dT := by
  unfold exS
  rw [List.filter_map, List.map_map, List.map_map, unT_dT]
  have e : ((fun e => !decide (unD e ∈ row)) ∘ dn) = fun c => !decide (c ∈ row) := by
    funext c
    show (!decide (unD (dn c) ∈ row)) = _
    rw [unD_dn]
  rw [e]
  apply List.map_congr_left
  intro c _
  show dT (row ++ [unD (dn c)]) = dT (row ++ [c])
  rw [unD_dn]
theorem ex_step (M : List Nat) : ∀ L : List (List Nat), ((L.map dT).flatMap fun d => ((M.map dn).filter fun e => !decide (unD e ∈ unT d)).map fun e => dT (unT d ++ [unD e])) = (L.flatMap (exS M)).map dT
  | [] => rfl
  | row :: L => by
    rw [List.map_cons, List.flatMap_cons, List.flatMap_cons, List.map_append, ex_step M L, ex_row]
theorem exN_len {ws : List Web} (h : ws.length ≤ 4) : ∀ i, (exN ws i).length ≤ 4 ^ i
  | 0 => by show 1 ≤ 1; omega
  | i + 1 => by
    unfold exN
    have := flat_len (exS (likesB ws (nWeb ws i))) 4 (exN ws i) fun row _ => by
      unfold exS likesB
      rw [List.length_map]
      exact Nat.le_trans (List.length_filter_le _ _) (Nat.le_trans (List.length_filter_le _ _) (by rw [List.length_range]; exact h))
    have := exN_len h i
    rw [Nat.pow_succ]
    omega
theorem exN_row {ws : List Web} : ∀ i, ∀ row ∈ exN ws i, row.length = i
  | 0, row, h => by obtain rfl := List.mem_singleton.mp h; rfl
  | i + 1, row, h => by
    unfold exN at h
    obtain ⟨r0, h0, h⟩ := List.mem_flatMap.mp h
    unfold exS at h
    obtain ⟨p, hp, rfl⟩ := List.mem_map.mp h
    rw [List.length_append, exN_row i r0 h0]; rfl
abbrev spEx : Sp := spT (α := ASwaps) (fun a => [dDm a.ws]) (fun a _ => DemOk a.ws) fun a m => Is (.lst ((exN a.ws a.ws.length).map dT)) m
theorem b_ex {K : PySem.W.Frag} {ws : List Web} {m : Mu} (h : DemOk ws) {A : List Anc} :
    Wp A (start0 7 [dDm ws]) m (t_exchanges_of K spLikeWay) (PFT (Is (.lst ((exN ws ws.length).map dT)) m) m) := by
  have h4 := h.hi
  unfold t_exchanges_of
  refine q_asg1 (d := .lst (([[]] : List (List Nat)).map dT)) (by walk_at "c") ?_
  refine q_forT ws dW (fun i r' m' => ∃ o2 o3 : Option D, r' = [some (dDm ws), some (.lst ((exN ws i).map dT)), o2, o3, none, none, none] ∧ m' = m) (src_tup1 (by walk_at "e")) ⟨none, none, rfl, rfl⟩ (fun _ _ _ _ => trivial) (fun B i w r' m' hB ha hj => ?_) fun r' m' hj => ?_
  · obtain ⟨o2, o3, rfl, rfl⟩ := hj
    have hi : i < ws.length := (List.getElem?_eq_some_iff.mp ha).1
    have ew : nWeb ws i = w := by have := nWeb_at hi; rw [ha] at this; exact (Option.some.inj this).symm
    have hw : w ∈ ws := List.mem_of_getElem? ha
    have wok := h.w w hw
    refine ⟨_, _, gd_name, q_asg1 (d := dL (likesB ws w)) (ev_to (ev_lc1 (fun c _ => isoB w (nWeb ws c)) (fun c _ => dn c) (src_enumT (by walk_at "e")) trivial (fun c d hd => ?_) (by rw [enumD_len, List.length_map]; omega)) ?_) ?_⟩
    · obtain ⟨e1, he, rfl⟩ := enumD_get hd
      rw [List.getElem?_map] at he
      obtain ⟨v, hv, rfl⟩ := Option.map_eq_some_iff.mp he
      have hc : c < ws.length := (List.getElem?_eq_some_iff.mp hv).1
      have ev : nWeb ws c = v := by have := nWeb_at hc; rw [hv] at this; exact (Option.some.inj this).symm
      have vok := h.w v (List.mem_of_getElem? hv)
      refine ⟨_, _, ?_, gd_tup (gdl_cons gd_name (gdl_cons gd_name gdl_nil)), evt_B (ev_notNR (R1 := fun d m2 => isNonD d = !isoB w v ∧ m2 = m') (ev_callT1 (AFirst.mk w v) (by walk_at "e") ⟨wok.hi, vok.hi⟩ fun d m4 q => ⟨?_, q.m⟩) fun d m4 q => ⟨isoB w (nWeb ws c), by rw [q.1, ev, Bool.not_not], rfl, q.2⟩), fun _ => by walk_at "e"⟩
      · simp
      · have := q.d
        cases hb : isoB w v with
        | true => exact this.mpr (isoB_iff.mp hb)
        | false =>
          cases hd : isNonD d with
          | true => rfl
          | false => rw [isoB_iff.mpr (this.mp hd)] at hb; cases hb
    · show D.lst _ = D.lst _
      rw [zip_snd (fun c => isoB w (nWeb ws c)) dn, enumD_len, List.length_map]; rfl
    · have hx := exN_len h4 i
      have hx4 : 4 ^ i ≤ 4 ^ 4 := Nat.pow_le_pow_right (by omega) (by omega)
      have hll : (likesB ws w).length ≤ 4 := by
        unfold likesB
        exact Nat.le_trans (List.length_filter_le _ _) (by rw [List.length_range]; exact h4)
      refine wp_asg (ev_mono (ev_to (d1 := .lst ((exN ws (i + 1)).map dT)) (ev_lc2 (Keep1 := KT) (fun d e => !decide (unD e ∈ unT d)) (fun d e => dT (unT d ++ [unD e])) (ds := (exN ws i).map dT) (es := (likesB ws w).map dn) (src_list1 (by walk_at "e")) trivial (fun d hd => ?_) ?_) ?_) fun d m3 e3 => ?_)
      · obtain ⟨row, hrow, rfl⟩ := List.mem_map.mp hd
        refine ⟨_, [6], by simp, gd_name, evt_yes, src_list1 (by walk_at "e"), trivial, fun e he => ?_⟩
        obtain ⟨c, hc, rfl⟩ := List.mem_map.mp he
        have hr := exN_row i row hrow
        refine ⟨_, [4], by simp, gd_name, ?_, fun _ => ?_⟩
        · show EvT1 _ _ _ (!decide (unD (dn c) ∈ unT (dT row)))
          rw [unD_dn, unT_dT]
          exact evt_test1 (ev_notInTn (by walk_at "e") (by walk_at "e"))
        · show Ev1 _ _ _ (dT (unT (dT row) ++ [unD (dn c)]))
          rw [unD_dn, unT_dT]
          refine ev_to (ev_catT (ds := row.map dn) (es := [dn c]) (by walk_at "e") (by walk_at "e") ?_) ?_
          · rw [List.length_map]; show _ + 1 ≤ _; omega
          · show D.tup (row.map dn ++ [dn c]) = D.tup ((row ++ [c]).map dn)
            rw [List.map_append]; rfl
      · rw [List.length_map, List.length_map]
        have : (exN ws i).length * (likesB ws w).length ≤ 256 * 4 := Nat.mul_le_mul (by omega) hll
        exact Nat.lt_of_le_of_lt this (by decide)
      · rw [ex_step, ← ew]; rfl
      · obtain ⟨rfl, rfl⟩ := e3
        exact ⟨_, _, rfl, rfl⟩
  · obtain ⟨o2, o3, rfl, rfl⟩ := hj
    refine wp_ret (ev_mono (ev_var rfl) fun d m4 e4 => ?_)
    obtain ⟨rfl, rfl⟩ := e4
    show FinT _ _ _ _
    exact fin1 (.refl _) rfl
end Hue
namespace Hue
open PySem PySem.Spec PyProof.Rows L2 DL
/-- the evaluation of an expression that reckons alone -/
local macro_rules | `(tactic| walk_at "e") => `(tactic| first
  | (with_reducible apply ev_var); rfl
  | (with_reducible exact ev_int)
  | ((with_reducible refine ev_to ev_int ?_); rfl)
  | (with_reducible exact ev_bl)
  | (with_reducible exact ev_str)
  | (with_reducible exact ev_non)
  | (with_reducible exact eva_nil)
  | (with_reducible apply eva_cons1) <;> walk_at "e"
  | (with_reducible apply ev_tup1) <;> walk_at "e"
  | (with_reducible apply ev_add) <;> walk_at "e"
  | (with_reducible apply ev_sub) <;> walk_at "e"
  | (with_reducible apply ev_ixT) <;> walk_at "e"
  | (with_reducible apply ev_ixL) <;> (walk_at "e"; done)
  | (with_reducible apply ev_ixV) <;> walk_at "e"
  | (with_reducible apply ev_lt) <;> walk_at "e"
  | (with_reducible apply ev_le) <;> walk_at "e"
  | (with_reducible apply ev_gt) <;> walk_at "e"
  | (with_reducible apply ev_ge) <;> walk_at "e"
  | (with_reducible apply ev_eqI) <;> (walk_at "e"; done)
  | (with_reducible apply ev_neI) <;> (walk_at "e"; done)
  | (with_reducible apply ev_isN) <;> walk_at "e"
  | (with_reducible apply ev_notN) <;> walk_at "e"
  | (with_reducible apply ev_neg) <;> walk_at "e"
  | (with_reducible apply ev_min2) <;> walk_at "e"
  | (with_reducible apply ev_max2) <;> walk_at "e"
  | (with_reducible apply ev_lenT) <;> (walk_at "e"; done)
  | (with_reducible apply ev_lenL) <;> (walk_at "e"; done)
  | (with_reducible apply ev_lenV) <;> walk_at "e"
  | (with_reducible apply ev_lenD) <;> walk_at "e"
  | (with_reducible apply ev_lst1) <;> walk_at "e"
  | (with_reducible assumption)
  | (with_reducible rfl)
  | rfl
  | exact Nat.le_of_ble_eq_true rfl)
local macro_rules | `(tactic| walk_at "t") => `(tactic| first
  | (with_reducible apply evt_test1) <;> walk_at "e"
  | (with_reducible apply evt_B1) <;> walk_at "e"
  | (with_reducible apply evt_not1) <;> walk_at "t")
/-- the same, brought to the wanted form -/
local macro_rules | `(tactic| walk_at "c") => `(tactic| (refine ev_to (by walk_at "e") ?_; first | rfl | (simp only [D.int.injEq]; omega)))
/-! small things, on both sides -/
structure ATwo where
  (a b : Nat)
abbrev spTie : Sp := spT (α := ATwo) (fun a => [dn a.a, dn a.b]) (fun _ _ => True) fun a m => Is (dp (nrm a.a a.b)) m
theorem b_tie {K : PySem.W.Frag} {a b : Nat} {m : Mu} {A : List Anc} : Wp A (start0 2 [dn a, dn b]) m (t_tie_between K) (PFT (Is (dp (nrm a b)) m) m) := by
  unfold t_tie_between
  rw [dp_nrm]
  refine wp_ret (ev_mono (ev_tup1 (eva_cons1 (by walk_at "e") (eva_cons1 (by walk_at "e") eva_nil))) fun d m3 e3 => ?_)
  obtain ⟨rfl, rfl⟩ := e3
  show FinT _ _ _ _
  exact fin1 (.refl _) rfl
structure AOne where
  (a : Nat)
abbrev spWhole : Sp := spT (α := AOne) (fun a => [dn a.a]) (fun _ _ => True) fun _ m => Is (.bl true) m
theorem b_whole {K : PySem.W.Frag} {a : Nat} {m : Mu} {A : List Anc} : Wp A (start0 1 [dn a]) m (t_is_whole K) (PFT (Is (.bl true) m) m) := by
  unfold t_is_whole
  refine wp_ret (ev_mono (ev_andV1 (ev_isi (t := "int") (u := "int") (b := true) (ev_var rfl) rfl rfl) fun _ => ev_notV1 (ev_isi (t := "int") (u := "bool") (b := false) (ev_var rfl) rfl rfl)) fun d m3 e3 => ?_)
  obtain ⟨rfl, rfl⟩ := e3
  show FinT _ _ _ _
  exact fin1 (.refl _) rfl
theorem b_lwhole {K : PySem.W.Frag} {a : Nat} {m : Mu} {A : List Anc} : Wp A (start0 1 [dn a]) m (t__law_whole K) (PFT (Is (.bl true) m) m) := b_whole
def ptsOk (n : Nat) (L : List Nat) : Bool := (L.all fun x => decide (x < n)) && decide L.Nodup
structure APts where
  (n : Nat) (L : List Nat)
abbrev spPts : Sp := spT (α := APts) (fun a => [dn a.n, dT a.L]) (fun a _ => a.L.length ≤ 1000) fun a m => Is (.bl (ptsOk a.n a.L)) m
theorem all_map {α : Type} (L : List α) (g : α → Bool) : (L.map g).all id = L.all g := by rw [List.all_map]; rfl
theorem b_pts {K : PySem.W.Frag} {n : Nat} {L : List Nat} {m : Mu} (h : L.length ≤ 1000) {A : List Anc} : Wp A (start0 3 [dn n, dT L]) m (t_are_points K spWhole) (PFT (Is (.bl (ptsOk n L)) m) m) := by
  unfold t_are_points
  have hall : Ev1 (start0 3 [dn n, dT L]) m (tCB (rAll K) (tCons (tLc (iTup K (tVar 1)) (gName 2) tYes (tAndV (tCall spWhole [] E0 (tCons (tVar 2) tNil)) (tChain rLeI rLtI (tC (.int 0)) (tVar 2) (tVar 0))) [2]) tNil)) (.bl (L.all fun x => decide (x < n))) := by
    refine ev_to (ev_all (bs := L.map fun (x : Nat) => true && (decide ((0 : Int) ≤ (x : Int)) && decide ((x : Int) < (n : Int)))) (ev_to (ev_lcM L dn (fun (x : Nat) => .bl (true && (decide ((0 : Int) ≤ (x : Int)) && decide ((x : Int) < (n : Int))))) (src_tup1 (by walk_at "e")) trivial (fun x hx => ⟨_, [2], by simp, gd_name, ev_andV1 (ev_callP (AOne.mk x) (by walk_at "e") trivial) fun _ => ev_chainB ev_int (by walk_at "e") o_le (by walk_at "e") o_lt⟩) (by omega)) ?_)) ?_
    · rw [List.map_map]; rfl
    · rw [all_map]
      congr 1
      apply congrArg (List.all L)
      funext x
      by_cases hx : x < n
      · rw [decide_eq_true hx, decide_eq_true (by omega), decide_eq_true (by omega)]; rfl
      · rw [decide_eq_false hx, decide_eq_true (by omega), decide_eq_false (by omega)]; rfl
  refine q_if (b := !true || !(L.all fun x => decide (x < n))) (evt_or1 (evt_not1 (evt_B1 (ev_isi (t := "tuple") (u := "tuple") (b := true) (ev_var rfl) rfl rfl))) fun _ => evt_not1 (evt_B1 hall)) (fun e => ?_) fun e => ?_
  · refine wp_ret (ev_mono ev_bl fun d m3 e3 => ?_)
    obtain ⟨rfl, rfl⟩ := e3
    have hf : ptsOk n L = false := by
      unfold ptsOk
      cases h : L.all fun x => decide (x < n) with
      | false => rfl
      | true => rw [h] at e; cases e
    rw [hf]
    show FinT _ _ _ _
    exact fin1 (.refl _) rfl
  · have ht : (L.all fun x => decide (x < n)) = true := by
      cases h : L.all fun x => decide (x < n) with
      | true => rfl
      | false => rw [h] at e; cases e
    refine wp_ret (ev_mono (R := Is (.bl (ptsOk n L)) m) (ev_opC (R1 := fun d m' => ∃ k : Nat, d = dn k ∧ (k = L.length ↔ L.Nodup) ∧ m' = m) (ev_lenSet (ns := L) (ev_var rfl) h fun k hk => ⟨k, rfl, hk, rfl⟩) (fun d1 m1 q => by obtain ⟨_, _, _, rfl⟩ := q; exact ev_to (ev_lenT (ev_var rfl)) (by rw [List.length_map])) fun d1 m1 q => ?_) fun d m3 e3 => ?_)
    · obtain ⟨k, rfl, hk, rfl⟩ := q
      refine op_mono (o_eq rfl) fun d m4 e4 => ⟨?_, e4.2⟩
      rw [e4.1]
      unfold ptsOk
      rw [ht, Bool.true_and]
      show D.bl (decide ((k : Int) = (L.length : Nat))) = _
      rw [dec_nat]
      congr 1
      exact decide_eq_decide.mpr hk
    · obtain ⟨rfl, rfl⟩ := e3
      show FinT _ _ _ _
      exact fin1 (.refl _) rfl
theorem b_lpts {K : PySem.W.Frag} {n : Nat} {L : List Nat} {m : Mu} (h : L.length ≤ 1000) {A : List Anc} : Wp A (start0 3 [dn n, dT L]) m (t__law_points K spWhole) (PFT (Is (.bl (ptsOk n L)) m) m) := b_pts h
def groupB (c : Case) (w : Web) (col : Nat) (g : List Nat) : Bool := w.2.all fun t => decide (cget c (nrm (g.getD t.1 0) (g.getD t.2 0)) = some col)
structure AGrp where
  (d : D) (c : Case) (w : Web) (col : Nat) (g : List Nat)
abbrev spIsGroup : Sp := spT (α := AGrp) (fun a => [a.d, dW a.w, dn a.col, dT a.g]) (fun a m => DV m a.d (a.c.map cI) ∧ WebOk a.w ∧ a.g.length = a.w.1) fun a m => Is (.bl (groupB a.c a.w a.col a.g)) m
theorem ev_tieGet {r : Rho} {m : Mu} {td ta tb tc : TE} {c : Case} {a b v : Nat} {d : D} {E : XK} (hd : DV m d (c.map cI)) (h0 : Ev1 r m td d) (h1 : Ev1 r m ta (dn a)) (h2 : Ev1 r m tb (dn b)) (h3 : Ev1 r m tc (dn v)) : Ev1 r m (tOp rEq (tDGet1 td (tCall spTie [] E (tCons ta (tCons tb tNil)))) tc) (.bl (decide (cget c (nrm a b) = some v))) := by
  refine ev_to (ev_eqS (ev_dget1 (k := iT (nrm a b)) hd h0 (ev_callP (ATwo.mk a b) (eva_cons1 h1 (eva_cons1 h2 eva_nil)) trivial)) h3 ?_) ?_
  · rw [dget_cI]
    cases cget c (nrm a b) <;> rfl
  · rw [dget_cI]
    cases cget c (nrm a b) with
    | none => rfl
    | some i =>
      show D.bl (decide ((i : Int) = (v : Int))) = _
      rw [dec_nat]
      congr 1
      exact decide_eq_decide.mpr ⟨fun e => by rw [e], fun e => Option.some.inj e⟩
theorem b_isGroup {K : PySem.W.Frag} {c : Case} {w : Web} {col : Nat} {g : List Nat} {d : D} {m : Mu} (h : DV m d (c.map cI) ∧ WebOk w ∧ g.length = w.1) {A : List Anc} : Wp A (start0 6 [d, dW w, dn col, dT g]) m (t_is_group K spTie) (PFT (Is (.bl (groupB c w col g)) m) m) := by
  obtain ⟨hd, hw, hg⟩ := h
  unfold t_is_group
  refine wp_ret (ev_mono (ev_to (d1 := .bl (groupB c w col g)) (ev_all (bs := w.2.map fun t => decide (cget c (nrm (g.getD t.1 0) (g.getD t.2 0)) = some col)) (ev_to (ev_lcM w.2 dp (fun t => .bl (decide (cget c (nrm (g.getD t.1 0) (g.getD t.2 0)) = some col))) (src_tup1 (ev_ties rfl)) trivial (fun t ht => ⟨_, _, ?_, gd_tup (gdl_cons gd_name (gdl_cons gd_name gdl_nil)), ev_tieGet hd (by walk_at "e") (ev_ixT (i := (t.1 : Int)) (by walk_at "e") (by walk_at "e") (dn_at ?_)) (ev_ixT (i := (t.2 : Int)) (by walk_at "e") (by walk_at "e") (dn_at ?_)) (by walk_at "e")⟩) ?_) ?_)) ?_) fun d m3 e3 => ?_)
  · simp
  · have := hw.t t ht; omega
  · have := hw.t t ht; omega
  · have := hw.l; omega
  · rw [List.map_map]; rfl
  · rw [all_map]; rfl
  · obtain ⟨rfl, rfl⟩ := e3
    show FinT _ _ _ _
    exact fin1 (.refl _) rfl
theorem hue_get {c : Case} {a b v : Nat} (hv : v < 9) : decide (hueN c a b = v) = decide (cget c (nrm a b) = some v) := by
  unfold hueN
  rw [decide_eq_decide]
  cases cget c (nrm a b) with
  | none => exact ⟨fun e => by have : (9 : Nat) = v := e; omega, fun e => by cases e⟩
  | some i => exact ⟨fun e => congrArg some e, fun e => Option.some.inj e⟩
/-- a group's tree holds -/
def grpB (ws : List Web) (n : Nat) (c : Case) (col : Nat) (g : List Nat) : Bool := decide (col < ws.length) && (ptsOk n g && (decide (g.length = (nWeb ws col).1) && groupB c (nWeb ws col) col g))
structure AFits where
  (ws : List Web) (n : Nat) (d : D) (c : Case) (col : Nat) (g : List Nat)
abbrev spGFits : Sp := spT (α := AFits) (fun a => [dDm a.ws, dn a.n, a.d, dn a.col, dT a.g]) (fun a m => DemOk a.ws ∧ DV m a.d (a.c.map cI) ∧ a.g.length ≤ 1000) fun a m => Is (.bl (grpB a.ws a.n a.c a.col a.g)) m
theorem b_gfits {K : PySem.W.Frag} {ws : List Web} {n : Nat} {d : D} {c : Case} {col : Nat} {g : List Nat} {m : Mu} (h : DemOk ws ∧ DV m d (c.map cI) ∧ g.length ≤ 1000) {A : List Anc} : Wp A (start0 7 [dDm ws, dn n, d, dn col, dT g]) m (t__law_group_fits K spHue spPts spWhole) (PFT (Is (.bl (grpB ws n c col g)) m) m) := by
  obtain ⟨hw, hd, hg⟩ := h
  have h4 := hw.hi
  unfold t__law_group_fits
  refine q_if (b := !true || !(decide ((0 : Int) ≤ (col : Int)) && decide ((col : Int) < (((ws.map dW).length : Nat) : Int)))) (evt_or1 (evt_not1 (evt_B1 (ev_callP (AOne.mk col) (by walk_at "e") trivial))) fun _ => evt_not1 (evt_test1 (ev_chainB ev_int (by walk_at "e") o_le (ev_lenT (by walk_at "e")) o_lt))) (fun e => ?_) fun e => ?_
  · refine wp_ret (ev_mono ev_bl fun d m3 e3 => ?_)
    obtain ⟨rfl, rfl⟩ := e3
    have hf : grpB ws n c col g = false := by
      unfold grpB
      rw [decide_eq_false (p := col < ws.length)]
      · rfl
      · intro hc
        rw [decide_eq_true (by omega), decide_eq_true (by rw [List.length_map]; omega)] at e
        cases e
    rw [hf]
    show FinT _ _ _ _
    exact fin1 (.refl _) rfl
  have hc : col < ws.length := by
    rcases Nat.lt_or_ge col ws.length with h | h
    · exact h
    · rw [decide_eq_false (p := (col : Int) < _) (by rw [List.length_map]; omega), Bool.and_false] at e
      cases e
  have wok := hw.w _ (nWeb_mem hc)
  have hE : grpB ws n c col g = (ptsOk n g && (decide (g.length = (nWeb ws col).1) && groupB c (nWeb ws col) col g)) := by
    unfold grpB
    rw [decide_eq_true hc, Bool.true_and]
  rw [hE]
  have hwb : Ev1 (start0 7 [dDm ws, dn n, d, dn col, dT g]) m (tOp (rIxT K) (tVar 0) (tVar 3)) (dW (nWeb ws col)) := ev_web (ev_var rfl) (ev_var rfl) hc
  refine q_if (b := !(ptsOk n g) || !decide (g.length = (nWeb ws col).1)) (evt_or1 (evt_not1 (evt_B1 (ev_callP (APts.mk n g) (by walk_at "e") hg))) fun _ => evt_t (ev_neI (ev_lenT (by walk_at "e")) (ev_ixT (i := 0) hwb ev_int (atI_n (n := 0) rfl))) (by rw [dec_nat, List.length_map])) (fun e => ?_) fun e => ?_
  · refine wp_ret (ev_mono ev_bl fun d m3 e3 => ?_)
    obtain ⟨rfl, rfl⟩ := e3
    have hf : (ptsOk n g && (decide (g.length = (nWeb ws col).1) && groupB c (nWeb ws col) col g)) = false := by
      cases h1 : ptsOk n g with
      | false => rfl
      | true =>
        rw [h1] at e
        cases h2 : decide (g.length = (nWeb ws col).1) with
        | false => rfl
        | true => rw [h2] at e; cases e
    rw [hf]
    show FinT _ _ _ _
    exact fin1 (.refl _) rfl
  have hp : ptsOk n g = true := by
    cases h1 : ptsOk n g with
    | true => rfl
    | false => rw [h1] at e; cases e
  have hl : g.length = (nWeb ws col).1 := by
    rw [hp] at e
    have e : (!decide (g.length = (nWeb ws col).1)) = false := e
    simpa using e
  rw [hp, decide_eq_true hl, Bool.true_and, Bool.true_and]
  refine wp_ret (ev_mono (ev_to (d1 := .bl (groupB c (nWeb ws col) col g)) (ev_all (bs := (nWeb ws col).2.map fun t => decide (cget c (nrm (g.getD t.1 0) (g.getD t.2 0)) = some col)) (ev_to (ev_lcM (nWeb ws col).2 dp (fun t => .bl (decide (cget c (nrm (g.getD t.1 0) (g.getD t.2 0)) = some col))) (src_tup1 (ev_ixT (i := 1) hwb ev_int (atI_n (n := 1) rfl))) trivial (fun t ht => ⟨_, _, ?_, gd_tup (gdl_cons gd_name (gdl_cons gd_name gdl_nil)), ev_to (ev_eqI (ev_hue hd (by walk_at "e") (ev_ixT (i := (t.1 : Int)) (by walk_at "e") (by walk_at "e") (dn_at ?_)) (ev_ixT (i := (t.2 : Int)) (by walk_at "e") (by walk_at "e") (dn_at ?_))) (by walk_at "e")) ?_⟩) ?_) ?_)) ?_) fun d m3 e3 => ?_)
  · simp
  · have := wok.t t ht; omega
  · have := wok.t t ht; omega
  · rw [dec_nat, hue_get (by omega)]
  · have := wok.l; omega
  · rw [List.map_map]; rfl
  · rw [all_map]; rfl
  · obtain ⟨rfl, rfl⟩ := e3
    show FinT _ _ _ _
    exact fin1 (.refl _) rfl
end Hue
namespace Hue
open PySem PySem.Spec PyProof.Rows L2 DL
/-- the evaluation of an expression that reckons alone -/
local macro_rules | `(tactic| walk_at "e") => `(tactic| first
  | (with_reducible apply ev_var); rfl
  | (with_reducible exact ev_int)
  | ((with_reducible refine ev_to ev_int ?_); rfl)
  | (with_reducible exact ev_bl)
  | (with_reducible exact ev_str)
  | (with_reducible exact ev_non)
  | (with_reducible exact eva_nil)
  | (with_reducible apply eva_cons1) <;> walk_at "e"
  | (with_reducible apply ev_tup1) <;> walk_at "e"
  | (with_reducible apply ev_add) <;> walk_at "e"
  | (with_reducible apply ev_sub) <;> walk_at "e"
  | (with_reducible apply ev_ixT) <;> walk_at "e"
  | (with_reducible apply ev_ixL) <;> (walk_at "e"; done)
  | (with_reducible apply ev_ixV) <;> walk_at "e"
  | (with_reducible apply ev_lt) <;> walk_at "e"
  | (with_reducible apply ev_le) <;> walk_at "e"
  | (with_reducible apply ev_gt) <;> walk_at "e"
  | (with_reducible apply ev_ge) <;> walk_at "e"
  | (with_reducible apply ev_eqI) <;> (walk_at "e"; done)
  | (with_reducible apply ev_neI) <;> (walk_at "e"; done)
  | (with_reducible apply ev_isN) <;> walk_at "e"
  | (with_reducible apply ev_notN) <;> walk_at "e"
  | (with_reducible apply ev_neg) <;> walk_at "e"
  | (with_reducible apply ev_min2) <;> walk_at "e"
  | (with_reducible apply ev_max2) <;> walk_at "e"
  | (with_reducible apply ev_lenT) <;> (walk_at "e"; done)
  | (with_reducible apply ev_lenL) <;> (walk_at "e"; done)
  | (with_reducible apply ev_lenV) <;> walk_at "e"
  | (with_reducible apply ev_lenD) <;> walk_at "e"
  | (with_reducible apply ev_lst1) <;> walk_at "e"
  | (with_reducible assumption)
  | (with_reducible rfl)
  | rfl
  | exact Nat.le_of_ble_eq_true rfl)
local macro_rules | `(tactic| walk_at "t") => `(tactic| first
  | (with_reducible apply evt_test1) <;> walk_at "e"
  | (with_reducible apply evt_B1) <;> walk_at "e"
  | (with_reducible apply evt_not1) <;> walk_at "t")
/-- the same, brought to the wanted form -/
local macro_rules | `(tactic| walk_at "c") => `(tactic| (refine ev_to (by walk_at "e") ?_; first | rfl | (simp only [D.int.injEq]; omega)))
/-! trees -/
inductive Tr where
  | grp (c : Nat) (g : List Nat)
  | lik (k : Nat) (ps sw : List Nat)
  | spl (t : Tie) (ts : List Tr)
mutual
def dTr : Tr → D
  | .grp c g => .tup [.str "group", dn c, dT g]
  | .lik k ps sw => .tup [.str "like", dn k, dT ps, dT sw]
  | .spl t ts => .tup [.str "split", dp t, .tup (dTrs ts)]
def dTrs : List Tr → List D
  | [] => []
  | t :: ts => dTr t :: dTrs ts
end
mutual
def dep : Tr → Nat
  | .grp _ _ => 0
  | .lik _ _ _ => 0
  | .spl _ ts => deps ts + 1
def deps : List Tr → Nat
  | [] => 0
  | t :: ts => max (dep t) (deps ts)
end
mutual
def sz : Tr → Nat
  | .grp _ _ => 1
  | .lik _ _ _ => 1
  | .spl _ ts => szs ts + 1
def szs : List Tr → Nat
  | [] => 0
  | t :: ts => sz t + szs ts
end
mutual
def TOk : Tr → Prop
  | .grp _ g => g.length ≤ 8
  | .lik _ ps sw => ps.length ≤ 8 ∧ sw.length ≤ 8
  | .spl _ ts => (1 ≤ ts.length ∧ ts.length ≤ 8) ∧ TsOk ts
def TsOk : List Tr → Prop
  | [] => True
  | t :: ts => TOk t ∧ TsOk ts
end
theorem dTrs_map : ∀ ts : List Tr, dTrs ts = ts.map dTr
  | [] => rfl
  | t :: ts => by unfold dTrs; rw [dTrs_map ts]; rfl
theorem dep_mem : ∀ {ts : List Tr} {t : Tr}, t ∈ ts → dep t ≤ deps ts
  | x :: xs, t, h => by
    unfold deps
    rcases List.mem_cons.mp h with rfl | h
    · omega
    · have := dep_mem h; omega
theorem sz_mem : ∀ {ts : List Tr} {t : Tr}, t ∈ ts → sz t ≤ szs ts
  | x :: xs, t, h => by
    unfold szs
    rcases List.mem_cons.mp h with rfl | h
    · omega
    · have := sz_mem h; omega
theorem TsOk_iff : ∀ {ts : List Tr}, TsOk ts ↔ ∀ t ∈ ts, TOk t
  | [] => by unfold TsOk; simp
  | x :: xs => by unfold TsOk; rw [TsOk_iff]; simp
theorem sz_pos : ∀ t : Tr, 1 ≤ sz t
  | .grp _ _ => by unfold sz; omega
  | .lik _ _ _ => by unfold sz; omega
  | .spl _ _ => by unfold sz; omega
structure CaseOk (n C : Nat) (cs : Case) : Prop where
  nd : (cs.map (·.1)).Nodup
  k : ∀ p ∈ cs, p.1.1 < p.1.2 ∧ p.1.2 < n
  v : ∀ p ∈ cs, p.2 < C
  l : cs.length ≤ 100
abbrev Es := List (Option Case)
def dE : Option Case → D
  | none => .non
  | some c => dC c
def EOk (n C : Nat) (E : Es) : Prop := ∀ cs, some cs ∈ E → CaseOk n C cs
def likB (n : Nat) (sws : List (List Nat)) (cs : Case) (E : Es) (k : Nat) (ps sw : List Nat) : Bool :=
  match E[k]? with
  | some (some old) => ptsOk n ps && (decide (ps.length = n) && (decide (sw ∈ sws) && old.all fun p => decide (cget cs (nrm (ps.getD p.1.1 0) (ps.getD p.1.2 0)) = some (sw.getD p.2 0))))
  | _ => false
theorem likB_none {n : Nat} {sws : List (List Nat)} {cs : Case} {E : Es} {k : Nat} {ps sw : List Nat} : likB n sws cs (E ++ [none]) k ps sw = likB n sws cs E k ps sw := by
  unfold likB
  rcases Nat.lt_trichotomy k E.length with h | h | h
  · rw [List.getElem?_append_left h]
  · subst h
    rw [List.getElem?_append_right (Nat.le_refl _), Nat.sub_self, List.getElem?_eq_none (Nat.le_refl _)]
    rfl
  · rw [List.getElem?_eq_none (l := E ++ [none]) (by rw [List.length_append]; show _ + 1 ≤ _; omega), List.getElem?_eq_none (l := E) (by omega)]
theorem cget_mem {cs : Case} (nd : (cs.map (·.1)).Nodup) {p : Tie × Nat} (hp : p ∈ cs) : cget cs p.1 = some p.2 := by
  induction cs with
  | nil => cases hp
  | cons q cs ih =>
    rw [List.map_cons, List.nodup_cons] at nd
    unfold cget
    rcases List.mem_cons.mp hp with rfl | hp
    · rw [List.find?_cons, decide_eq_true rfl]; rfl
    · have : q.1 ≠ p.1 := fun e => nd.1 (List.mem_map.mpr ⟨p, hp, e.symm⟩)
      rw [List.find?_cons, decide_eq_false this]
      exact ih nd.2 hp
structure ALFits where
  (n : Nat) (sws : List (List Nat)) (cs : Case) (e : Addr) (E : Es) (k : Nat) (ps sw : List Nat)
structure PLFits (n C : Nat) (sws : List (List Nat)) (e : Addr) (E : Es) (ps sw : List Nat) (m : Mu) : Prop where
  e : m e = some (.lst (E.map dE))
  ok : EOk n C E
  cl : C ≤ 4
  s : ∀ s ∈ sws, OrdOk s C
  p : ps.length ≤ 8
  w : sw.length ≤ 8
abbrev spLFits : Sp := spT (α := ALFits) (fun a => [dn a.n, .lst (a.sws.map dT), dC a.cs, .vol a.e, .tup [.str "like", dn a.k, dT a.ps, dT a.sw]]) (fun a m => ∃ C, PLFits a.n C a.sws a.e a.E a.ps a.sw m) fun a m => Is (.bl (likB a.n a.sws a.cs a.E a.k a.ps a.sw)) m
theorem dT_memL {x : List Nat} {L : List (List Nat)} : x ∈ L ↔ dT x ∈ L.map dT := by
  constructor
  · exact fun h => List.mem_map.mpr ⟨x, h, rfl⟩
  · intro h
    obtain ⟨u, hu, e⟩ := List.mem_map.mp h
    rw [← dT_inj e]; exact hu
theorem b_lfits {K : PySem.W.Frag} {n C : Nat} {sws : List (List Nat)} {cs : Case} {e : Addr} {E : Es} {k : Nat} {ps sw : List Nat} {m : Mu} (h : PLFits n C sws e E ps sw m) {A : List Anc} :
    Wp A (start0 13 [dn n, .lst (sws.map dT), dC cs, .vol e, .tup [.str "like", dn k, dT ps, dT sw]]) m (t__law_like_fits K spHue spWhole spPts) (PFT (Is (.bl (likB n sws cs E k ps sw)) m) m) := by
  obtain ⟨he, hok, hC, hs, hp8, hw8⟩ := h
  unfold t__law_like_fits
  have no : ∀ {r : Rho} {nx bk ct : Rho → Mu → Prop}, likB n sws cs E k ps sw = false → Wp A r m (tRet (tC (.bl false))) { nx := nx, rt := FinT (Is (.bl (likB n sws cs E k ps sw)) m) m, bk := bk, ct := ct } := fun hf => by
    refine wp_ret (ev_mono ev_bl fun d m3 e3 => ?_)
    obtain ⟨rfl, rfl⟩ := e3
    rw [hf]
    show FinT _ _ _ _
    exact fin1 (.refl _) rfl
  refine q_asgG (ev_var rfl) (gd_tup (gdl_cons gd_name (gdl_cons gd_name (gdl_cons gd_name (gdl_cons gd_name gdl_nil))))) ?_
  by_cases hk : k < E.length
  rotate_left
  · refine q_if (b := !true || (!(decide ((0 : Int) ≤ (k : Int)) && decide ((k : Int) < (((E.map dE).length : Nat) : Int))) || true)) (evt_or1 (evt_not1 (evt_B1 (ev_callP (AOne.mk k) (by walk_at "e") trivial))) fun _ => evt_or1 (evt_not1 (evt_test1 (ev_chainB ev_int (by walk_at "e") o_le (ev_lenV (by walk_at "e") he) o_lt))) fun q => ?_) (fun _ => no ?_) fun q => ?_
    · rw [decide_eq_false (p := (k : Int) < _) (by rw [List.length_map]; omega), Bool.and_false] at q
      cases q
    · unfold likB
      rw [List.getElem?_eq_none (by omega)]
    · rw [Bool.or_true] at q
      cases q
  have hE : E[k]? = some E[k] := List.getElem?_eq_getElem hk
  have hEd : (E.map dE)[k]? = some (dE E[k]) := by rw [List.getElem?_map, hE]; rfl
  have tst : EvT1 [some (dn n), some (.lst (sws.map dT)), some (dC cs), some (.vol e), some (.tup [.str "like", dn k, dT ps, dT sw]), some (.str "like"), some (dn k), some (dT ps), some (dT sw), none, none, none, none] m (tOr (tNot (tB (tCall spWhole [] E0 (tCons (tVar 6) tNil)))) (tOr (tNot (tTest (tChain rLeI rLtI (tC (.int 0)) (tVar 6) (tCB (rLenS K) (tCons (tVar 3) tNil))))) (tB (tIsN (tOp (rIxL K) (tVar 3) (tVar 6)))))) (isNonD (dE E[k])) := by
    refine evt_to (evt_or1 (evt_not1 (evt_B1 (ev_callP (AOne.mk k) (by walk_at "e") trivial))) fun _ => evt_or1 (evt_not1 (evt_test1 (ev_chainB ev_int (by walk_at "e") o_le (ev_lenV (by walk_at "e") he) o_lt))) fun _ => evt_B1 (ev_isN (ev_ixV (by walk_at "e") (by walk_at "e") he (atI_n hEd)))) ?_
    rw [decide_eq_true (p := (k : Int) < _) (by rw [List.length_map]; omega), decide_eq_true (p := (0 : Int) ≤ (k : Int)) (by omega)]
    rfl
  refine q_if tst (fun q => no ?_) fun q => ?_
  · unfold likB
    rw [hE]
    cases hx : E[k] with
    | none => rfl
    | some c => rw [hx] at q; cases q
  obtain ⟨old, hold⟩ : ∃ old, E[k] = some old := by
    cases hx : E[k] with
    | none => rw [hx] at q; cases q
    | some c => exact ⟨c, rfl⟩
  rw [hold] at hE hEd
  have ook := hok old (List.mem_of_getElem? hE)
  have hL : likB n sws cs E k ps sw = (ptsOk n ps && (decide (ps.length = n) && (decide (sw ∈ sws) && old.all fun p => decide (cget cs (nrm (ps.getD p.1.1 0) (ps.getD p.1.2 0)) = some (sw.getD p.2 0))))) := by
    unfold likB
    rw [hE]
  refine q_if (b := !(ptsOk n ps) || !decide (ps.length = n)) (evt_or1 (evt_not1 (evt_B1 (ev_callP (APts.mk n ps) (by walk_at "e") (by show ps.length ≤ 1000; omega)))) fun _ => evt_t (ev_neI (ev_lenT (by walk_at "e")) (by walk_at "e")) (by rw [dec_nat, List.length_map])) (fun q => no ?_) fun q => ?_
  · rw [hL]
    cases h1 : ptsOk n ps with
    | false => rfl
    | true =>
      rw [h1] at q
      cases h2 : decide (ps.length = n) with
      | false => rfl
      | true => rw [h2] at q; cases q
  have hpt : ptsOk n ps = true := by
    cases h1 : ptsOk n ps with
    | true => rfl
    | false => rw [h1] at q; cases q
  have hpl : ps.length = n := by
    rw [hpt] at q
    have q : (!decide (ps.length = n)) = false := q
    simpa using q
  refine q_if (b := !true || (!true || !decide (sw ∈ sws))) (evt_or1 (evt_not1 (evt_B1 (ev_isi (t := "tuple") (u := "tuple") (b := true) (by walk_at "e") rfl rfl))) fun _ => evt_or1 (evt_not1 (evt_B1 (ev_to (d1 := .bl true) (ev_all (bs := sw.map fun _ => true) (ev_to (ev_lcM sw dn (fun _ => .bl true) (src_tup1 (by walk_at "e")) trivial (fun x hx => ⟨_, [10], by simp, gd_name, ev_callP (AOne.mk x) (by walk_at "e") trivial⟩) (by omega)) ?_)) ?_))) fun _ => evt_t (ev_op1 (by walk_at "e") (by walk_at "e") (o_notInD (b := !decide (sw ∈ sws)) (okD_dT sw) (okD_Ts sws) ?_)) rfl) (fun q => no ?_) fun q => ?_
  · rw [List.map_map]; rfl
  · rw [all_map]; congr 1; exact List.all_eq_true.mpr fun _ _ => rfl
  · rw [← dT_memL]; simp
  · rw [hL]
    cases h2 : decide (sw ∈ sws) with
    | false => simp
    | true => rw [h2] at q; cases q
  have hsw : sw ∈ sws := by
    cases h2 : decide (sw ∈ sws) with
    | true => exact of_decide_eq_true h2
    | false => rw [h2] at q; cases q
  have so := hs sw hsw
  refine q_asg1 (d := dC old) (ev_ixV (by walk_at "e") (by walk_at "e") he (atI_n hEd)) ?_
  rw [hL, hpt, decide_eq_true hpl, decide_eq_true hsw, Bool.true_and, Bool.true_and, Bool.true_and]
  refine wp_ret (ev_mono (ev_to (d1 := .bl (old.all fun p => decide (cget cs (nrm (ps.getD p.1.1 0) (ps.getD p.1.2 0)) = some (sw.getD p.2 0)))) (ev_all (bs := old.map fun p => decide (cget cs (nrm (ps.getD p.1.1 0) (ps.getD p.1.2 0)) = some (sw.getD p.2 0))) (ev_to (ev_lcM old (fun p => tk (iT p.1)) (fun p => .bl (decide (cget cs (nrm (ps.getD p.1.1 0) (ps.getD p.1.2 0)) = some (sw.getD p.2 0)))) (src_list1 (ev_to (ev_listD (.inl rfl) (by walk_at "e")) (by rw [List.map_map]; rfl))) trivial (fun p hp => ⟨_, _, ?_, gd_tup (gdl_cons gd_name (gdl_cons gd_name gdl_nil)), ev_to (ev_eqI (ev_hue (.inl rfl) (by walk_at "e") (ev_ixT (i := (p.1.1 : Int)) (by walk_at "e") (by walk_at "e") (dn_at ?_)) (ev_ixT (i := (p.1.2 : Int)) (by walk_at "e") (by walk_at "e") (dn_at ?_))) (ev_ixT (i := (p.2 : Int)) (by walk_at "e") (ev_dix (k := iT p.1) (.inl rfl) (by walk_at "e") (by walk_at "e") ?_) (dn_at ?_))) ?_⟩) ?_) ?_)) ?_) fun d m3 e3 => ?_)
  · simp
  · have := ook.k p hp; omega
  · have := ook.k p hp; omega
  · rw [dget_cI, cget_mem ook.nd hp]; rfl
  · rw [so.len]; exact ook.v p hp
  · have := so.lt _ (getD_mem (show p.2 < sw.length by rw [so.len]; exact ook.v p hp))
    rw [dec_nat, hue_get (by omega)]
  · have := ook.l; omega
  · rw [List.map_map]; rfl
  · rw [all_map]
  · obtain ⟨rfl, rfl⟩ := e3
    show FinT _ _ _ _
    exact fin1 (.refl _) rfl
end Hue
namespace Hue
open PySem PySem.Spec PyProof.Rows L2 DL
/-- the evaluation of an expression that reckons alone -/
local macro_rules | `(tactic| walk_at "e") => `(tactic| first
  | (with_reducible apply ev_var); rfl
  | (with_reducible exact ev_int)
  | ((with_reducible refine ev_to ev_int ?_); rfl)
  | (with_reducible exact ev_bl)
  | (with_reducible exact ev_str)
  | (with_reducible exact ev_non)
  | (with_reducible exact eva_nil)
  | (with_reducible apply eva_cons1) <;> walk_at "e"
  | (with_reducible apply ev_tup1) <;> walk_at "e"
  | (with_reducible apply ev_add) <;> walk_at "e"
  | (with_reducible apply ev_sub) <;> walk_at "e"
  | (with_reducible apply ev_ixT) <;> walk_at "e"
  | (with_reducible apply ev_ixL) <;> (walk_at "e"; done)
  | (with_reducible apply ev_ixV) <;> walk_at "e"
  | (with_reducible apply ev_lt) <;> walk_at "e"
  | (with_reducible apply ev_le) <;> walk_at "e"
  | (with_reducible apply ev_gt) <;> walk_at "e"
  | (with_reducible apply ev_ge) <;> walk_at "e"
  | (with_reducible apply ev_eqI) <;> (walk_at "e"; done)
  | (with_reducible apply ev_neI) <;> (walk_at "e"; done)
  | (with_reducible apply ev_isN) <;> walk_at "e"
  | (with_reducible apply ev_notN) <;> walk_at "e"
  | (with_reducible apply ev_neg) <;> walk_at "e"
  | (with_reducible apply ev_min2) <;> walk_at "e"
  | (with_reducible apply ev_max2) <;> walk_at "e"
  | (with_reducible apply ev_lenT) <;> (walk_at "e"; done)
  | (with_reducible apply ev_lenL) <;> (walk_at "e"; done)
  | (with_reducible apply ev_lenV) <;> walk_at "e"
  | (with_reducible apply ev_lenD) <;> walk_at "e"
  | (with_reducible apply ev_lst1) <;> walk_at "e"
  | (with_reducible assumption)
  | (with_reducible rfl)
  | rfl
  | exact Nat.le_of_ble_eq_true rfl)
local macro_rules | `(tactic| walk_at "t") => `(tactic| first
  | (with_reducible apply evt_test1) <;> walk_at "e"
  | (with_reducible apply evt_B1) <;> walk_at "e"
  | (with_reducible apply evt_not1) <;> walk_at "t")
/-- the same, brought to the wanted form -/
local macro_rules | `(tactic| walk_at "c") => `(tactic| (refine ev_to (by walk_at "e") ?_; first | rfl | (simp only [D.int.injEq]; omega)))
/-! the law's judgement -/
def splOk (ws : List Web) (n : Nat) (cs : Case) (t : Tie) (ts : List Tr) : Bool := (ptsOk n [t.1, t.2] && (true && (decide (t.1 < t.2) && !(cget cs t).isSome))) && (true && decide (ts.length = ws.length))
mutual
def jud (ws : List Web) (n : Nat) (sws : List (List Nat)) : Tr → Case → Es → Bool × Es
  | .grp c g, cs, E => (grpB ws n cs c g, E ++ [some cs])
  | .lik k ps sw, cs, E => (likB n sws cs E k ps sw, E ++ [some cs])
  | .spl t ts, cs, E => if splOk ws n cs t ts = true then ((juds ws n sws t ts 0 cs (E ++ [none])).1, (juds ws n sws t ts 0 cs (E ++ [none])).2.set E.length (some cs)) else (false, E ++ [some cs])
def juds (ws : List Web) (n : Nat) (sws : List (List Nat)) (t : Tie) : List Tr → Nat → Case → Es → Bool × Es
  | [], _, _, E => (true, E)
  | x :: xs, c, cs, E => if (jud ws n sws x (cput cs t c) E).1 = true then juds ws n sws t xs (c + 1) cs (jud ws n sws x (cput cs t c) E).2 else (false, (jud ws n sws x (cput cs t c) E).2)
end
theorem cput_new {cs : Case} {t : Tie} {v : Nat} (h : cget cs t = none) : cput cs t v = cs ++ [(t, v)] := by
  unfold cput
  rw [if_neg]
  intro q
  obtain ⟨p, hp, e⟩ := List.any_eq_true.mp q
  unfold cget at h
  rw [Option.map_eq_none_iff, List.find?_eq_none] at h
  exact h p hp e
theorem cget_none {cs : Case} {t : Tie} (h : cget cs t = none) : t ∉ cs.map (·.1) := by
  intro q
  obtain ⟨p, hp, rfl⟩ := List.mem_map.mp q
  unfold cget at h
  rw [Option.map_eq_none_iff, List.find?_eq_none] at h
  exact h p hp (decide_eq_true rfl)
theorem CaseOk.put {n C : Nat} {cs : Case} (h : CaseOk n C cs) {t : Tie} {v : Nat} (hg : cget cs t = none) (ht : t.1 < t.2 ∧ t.2 < n) (hv : v < C) (hl : cs.length < 100) : CaseOk n C (cput cs t v) := by
  rw [cput_new hg]
  refine ⟨?_, fun p hp => ?_, fun p hp => ?_, by rw [List.length_append]; exact hl⟩
  · rw [List.map_append, List.nodup_append]
    refine ⟨h.nd, by simp, fun a ha b hb e => ?_⟩
    obtain rfl := List.mem_singleton.mp hb
    subst e
    exact cget_none hg ha
  · rcases List.mem_append.mp hp with hp | hp
    · exact h.k p hp
    · obtain rfl := List.mem_singleton.mp hp; exact ht
  · rcases List.mem_append.mp hp with hp | hp
    · exact h.v p hp
    · obtain rfl := List.mem_singleton.mp hp; exact hv
theorem splOk_iff {ws : List Web} {n : Nat} {cs : Case} {t : Tie} {ts : List Tr} : splOk ws n cs t ts = true ↔ (t.1 < t.2 ∧ t.2 < n) ∧ cget cs t = none ∧ ts.length = ws.length := by
  unfold splOk ptsOk
  simp only [List.all_cons, List.all_nil, Bool.and_true, Bool.true_and, Bool.and_eq_true, decide_eq_true_eq, Bool.not_eq_true', Option.isSome_eq_false_iff, Option.isNone_iff_eq_none]
  constructor
  · rintro ⟨⟨⟨⟨_, h2⟩, _⟩, h3, h4⟩, h5⟩
    exact ⟨⟨h3, h2⟩, h4, h5⟩
  · rintro ⟨⟨h3, h2⟩, h4, h5⟩
    exact ⟨⟨⟨⟨by omega, h2⟩, by simp; omega⟩, h3, h4⟩, h5⟩
theorem szs_cons (x : Tr) (xs : List Tr) : szs (x :: xs) = sz x + szs xs := by rw [szs]
theorem mul_small {n : Nat} {b : Int} (hn : n ≤ 5) (hb : b = 0 ∨ b = 1) : CMulW (n : Int) b := by
  have : n = 0 ∨ n = 1 ∨ n = 2 ∨ n = 3 ∨ n = 4 ∨ n = 5 := by omega
  rcases this with rfl | rfl | rfl | rfl | rfl | rfl <;> rcases hb with rfl | rfl <;> (unfold CMulW; decide)
/-- what a judgement leaves -/
structure JOk (n C : Nat) (E E' : Es) (s : Nat) : Prop where
  pre : E <+: E'
  ok : EOk n C E'
  len : E'.length ≤ E.length + s
theorem EOk.snoc {n C : Nat} {E : Es} (h : EOk n C E) {o : Option Case} (ho : ∀ cs, o = some cs → CaseOk n C cs) : EOk n C (E ++ [o]) := fun cs hc => by
  rcases List.mem_append.mp hc with hc | hc
  · exact h cs hc
  · exact ho cs (List.mem_singleton.mp hc).symm
theorem EOk.set {n C : Nat} {E : Es} (h : EOk n C E) {i : Nat} {cs : Case} (hc : CaseOk n C cs) : EOk n C (E.set i (some cs)) := fun c hm => by
  rcases List.mem_or_eq_of_mem_set hm with hm | hm
  · exact h c hm
  · cases hm; exact hc
theorem pre_set {E E' : Es} {o o' : Option Case} (h : E ++ [o] <+: E') : E <+: E'.set E.length o' := by
  obtain ⟨t, rfl⟩ := h
  rw [List.append_assoc, List.set_append_right _ _ (Nat.le_refl _)]
  exact ⟨_, rfl⟩
mutual
theorem jud_ok {ws : List Web} {n : Nat} {sws : List (List Nat)} : ∀ (x : Tr) {cs : Case} {E : Es}, CaseOk n ws.length cs → cs.length + dep x ≤ 100 → EOk n ws.length E → JOk n ws.length E (jud ws n sws x cs E).2 (sz x)
  | .grp c g, cs, E, hc, _, hE => by unfold jud sz; exact ⟨⟨_, rfl⟩, hE.snoc fun _ e => by cases e; exact hc, by rw [List.length_append]; exact Nat.le_refl _⟩
  | .lik k ps sw, cs, E, hc, _, hE => by unfold jud sz; exact ⟨⟨_, rfl⟩, hE.snoc fun _ e => by cases e; exact hc, by rw [List.length_append]; exact Nat.le_refl _⟩
  | .spl t ts, cs, E, hc, hd, hE => by
    unfold jud sz
    unfold dep at hd
    split
    · rename_i hs
      obtain ⟨h1, h2, h3⟩ := splOk_iff.mp hs
      have q := juds_ok (ws := ws) (n := n) (sws := sws) (t := t) ts (c := 0) hc (by omega) (hE.snoc (o := none) fun _ e => by cases e) (fun v hv => hc.put h2 h1 hv (by omega)) (by omega)
      refine ⟨pre_set q.pre, q.ok.set hc, ?_⟩
      have := q.len
      rw [List.length_set]
      rw [List.length_append] at this
      have : _ ≤ E.length + 1 + szs ts := this
      omega
    · exact ⟨⟨_, rfl⟩, hE.snoc fun _ e => by cases e; exact hc, by rw [List.length_append]; show _ + 1 ≤ _; omega⟩
theorem juds_ok {ws : List Web} {n : Nat} {sws : List (List Nat)} {t : Tie} : ∀ (xs : List Tr) {c : Nat} {cs : Case} {E : Es}, CaseOk n ws.length cs → cs.length + 1 + deps xs ≤ 100 → EOk n ws.length E → (∀ v, v < ws.length → CaseOk n ws.length (cput cs t v)) → c + xs.length ≤ ws.length → JOk n ws.length E (juds ws n sws t xs c cs E).2 (szs xs)
  | [], c, cs, E, _, _, hE, _, _ => by unfold juds szs; exact ⟨⟨[], by simp⟩, hE, Nat.le_refl _⟩
  | x :: xs, c, cs, E, hc, hd, hE, hp, hl => by
    unfold juds szs
    unfold deps at hd
    rw [List.length_cons] at hl
    have hpl : (cput cs t c).length ≤ cs.length + 1 := by
      unfold cput
      split
      · rw [List.length_map]; omega
      · rw [List.length_append]; exact Nat.le_refl _
    have q := jud_ok (ws := ws) (n := n) (sws := sws) x (hp c (by omega)) (by omega) hE
    split
    · have q2 := juds_ok (ws := ws) (n := n) (sws := sws) (t := t) xs (c := c + 1) hc (by omega) q.ok hp (by omega)
      exact ⟨q.pre.trans q2.pre, q2.ok, by have := q.len; have := q2.len; omega⟩
    · exact ⟨q.pre, q.ok, by have := q.len; show (jud ws n sws x (cput cs t c) E).2.length ≤ _; omega⟩
end
structure AJud where
  (ws : List Web) (n : Nat) (t : Tr) (cs : Case) (e : Addr) (E : Es)
structure PJud (ws : List Web) (n : Nat) (t : Tr) (cs : Case) (e : Addr) (E : Es) (m : Mu) : Prop where
  fe : m e = some (.lst (E.map dE))
  fw : DemOk ws
  fn : n ≤ 8
  ft : TOk t
  fc : CaseOk n ws.length cs
  fd : cs.length + dep t ≤ 100
  fE : EOk n ws.length E
  fl : E.length + sz t ≤ 10000000
abbrev scn (ws : List Web) (n : Nat) : D := .tup [dDm ws, dn n, .lst ((swapsN ws).map dT)]
structure QJud (ws : List Web) (n : Nat) (t : Tr) (cs : Case) (e : Addr) (E : Es) (m : Mu) (d : D) (m' : Mu) : Prop where
  gd : d = .bl (jud ws n (swapsN ws) t cs E).1
  gm : m' = pt m e (.lst ((jud ws n (swapsN ws) t cs E).2.map dE))
abbrev spJud (k : Nat) : Sp := spT (α := AJud) (fun a => [scn a.ws a.n, dTr a.t, dC a.cs, .vol a.e]) (fun a m => dep a.t < k ∧ PJud a.ws a.n a.t a.cs a.e a.E m) fun a m d m' => QJud a.ws a.n a.t a.cs a.e a.E m d m'
theorem swaps_ord {ws : List Web} : ∀ s ∈ swapsN ws, OrdOk s ws.length := fun s hs => mem_orders.mp (List.mem_filter.mp hs).1
theorem ev_ixE {K : PySem.W.Frag} {r : Rho} {m : Mu} {ta : TE} {ds : List D} {d : D} {i : Nat} (h : Ev1 r m ta (.tup ds)) (e : ds[i]? = some d) : Ev1 r m (tOp (rIxT K) ta (tC (.int (i : Int)))) d := ev_ixT h ev_int (atI_n e)
theorem b_jud {K : PySem.W.Frag} {ws : List Web} {n k : Nat} {t : Tr} {cs : Case} {e : Addr} {E : Es} {m : Mu} (hk : dep t < k + 1) (h : PJud ws n t cs e E m) {A : List Anc} (hA : ∀ B ∈ A, B.M = dm m) :
    Wp A (start0 11 [scn ws n, dTr t, dC cs, .vol e]) m (t__law_judged K spGFits spLFits (spJud k) spPts) (PFT (QJud ws n t cs e E m) m) := by
  obtain ⟨he, hw, hn, ht, hc, hd, hE, hl⟩ := h
  have h4 := hw.hi
  have hedm : dm m e := dm_of he
  have hElen : E.length + 1 ≤ 10000000 := by have := sz_pos t; omega
  unfold t__law_judged
  refine q_asgG (ev_var rfl) (gd_tup (gdl_cons gd_name (gdl_cons gd_name (gdl_cons gd_name gdl_nil)))) ?_
  refine q_asg1 (d := dn E.length) (ev_to (ev_lenV (by walk_at "e") he) (by rw [List.length_map])) ?_
  refine q_drop (ev_append1 (d := .non) (by walk_at "e") he ev_non (by rw [List.length_map]; omega)) fun d m1 q => ?_
  obtain ⟨rfl, rfl⟩ := q
  have hE1 : E.map dE ++ [.non] = (E ++ [none]).map dE := by rw [List.map_append]; rfl
  rw [hE1]
  refine q_asg1 (d := .bl true) (ev_to (d1 := .bl true) (?_ : Ev1 _ _ _ (.bl (true && (true && true)))) rfl) ?_
  · have hh : ∃ x ds, dTr t = .tup (.str x :: ds) := by cases t <;> exact ⟨_, _, rfl⟩
    obtain ⟨x, ds, hh⟩ := hh
    rw [hh]
    exact ev_andV1 (ev_isi (t := "tuple") (u := "tuple") (b := true) (ev_var rfl) rfl rfl) fun _ => ev_andV1 (ev_to (ev_gt (ev_lenT (ev_var rfl)) ev_int) (by rw [decide_eq_true (by rw [List.length_cons]; omega)])) fun _ => ev_isi (t := "str") (u := "str") (b := true) (ev_ixE (i := 0) (ev_var rfl) rfl) rfl rfl
  -- the three kinds
  refine q_cut (fun r2 m2 => ∃ o9 o10 : Option D, r2 = [some (scn ws n), some (dTr t), some (dC cs), some (.vol e), some (dDm ws), some (dn n), some (.lst ((swapsN ws).map dT)), some (dn E.length), some (.bl (jud ws n (swapsN ws) t cs E).1), o9, o10] ∧ ∃ E' : Es, m2 = pt m e (.lst (E'.map dE)) ∧ E.length < E'.length ∧ E'.set E.length (some cs) = (jud ws n (swapsN ws) t cs E).2) ?_ fun r2 m2 q => ?_
  rotate_left
  · obtain ⟨o9, o10, rfl, E', rfl, hlen, hset⟩ := q
    refine wp_seq (wp_setL (R1 := Is (dC cs) (pt m e (.lst (E'.map dE)))) (ev_dcopy (.inl rfl) (by walk_at "e") (fun p hp => ?_) (.inl rfl)) fun d m3 q => ?_)
    · obtain ⟨q, hq, rfl⟩ := List.mem_map.mp hp
      have := hc.k q hq
      exact ⟨q.1.1, q.1.2, rfl, by omega, by omega⟩
    · obtain ⟨rfl, rfl⟩ := q
      refine ⟨e, E'.map dE, E.length, by walk_at "e", by walk_at "e", pt_same, by rw [List.length_map]; exact hlen, ?_⟩
      refine wp_ret (ev_mono (ev_var rfl) fun d m4 q => ?_)
      obtain ⟨rfl, rfl⟩ := q
      show FinT _ _ _ _
      refine fin_same (fun a ha => by rw [pt_pt]; exact dm_pt.mpr (.inr ha)) ⟨rfl, ?_⟩
      rw [pt_pt, ← hset, List.map_set]; rfl
  · cases t with
    | grp c g =>
      have ht : g.length ≤ 8 := by unfold TOk at ht; exact ht
      refine wp_ifs1 (b := true) (evt_to (evt_and1 (evt_B1 (by walk_at "e")) fun _ => evt_and1 (evt_test1 (ev_eqS (ev_ixE (i := 0) (by walk_at "e") rfl) (by walk_at "e") rfl)) fun _ => evt_test1 (ev_eqI (ev_lenT (by walk_at "e")) (by walk_at "e"))) rfl) (fun _ => ?_) fun q => by cases q
      refine wp_asg (ev_mono (ev_callP (AFits.mk ws n (dC cs) cs c g) (eva_cons1 (by walk_at "e") (eva_cons1 (by walk_at "e") (eva_cons1 (by walk_at "e") (eva_cons1 (ev_ixE (i := 1) (by walk_at "e") rfl) (eva_cons1 (ev_ixE (i := 2) (by walk_at "e") rfl) eva_nil))))) ⟨hw, .inl rfl, by show g.length ≤ 1000; omega⟩) fun d m3 q => ?_)
      obtain ⟨rfl, rfl⟩ := q
      exact ⟨_, _, rfl, E ++ [none], rfl, by simp, by unfold jud; simp⟩
    | lik k2 ps sw =>
      have ht : ps.length ≤ 8 ∧ sw.length ≤ 8 := by unfold TOk at ht; exact ht
      refine wp_ifs1 (b := false) (evt_to (evt_and1 (evt_B1 (by walk_at "e")) fun _ => evt_and1 (b := false) (evt_test1 (ev_eqS (ev_ixE (i := 0) (by walk_at "e") rfl) (by walk_at "e") rfl)) fun q => by cases q) rfl) (fun q => by cases q) fun _ => ?_
      refine wp_ifs1 (b := true) (evt_to (evt_and1 (evt_B1 (by walk_at "e")) fun _ => evt_and1 (evt_test1 (ev_eqS (ev_ixE (i := 0) (by walk_at "e") rfl) (by walk_at "e") rfl)) fun _ => evt_test1 (ev_eqI (ev_lenT (by walk_at "e")) (by walk_at "e"))) rfl) (fun _ => ?_) fun q => by cases q
      refine wp_asg (ev_mono (ev_callP (ALFits.mk n (swapsN ws) cs e (E ++ [none]) k2 ps sw) (by walk_at "e") ⟨ws.length, pt_same, hE.snoc fun _ q => (by cases q), h4, swaps_ord, ht.1, ht.2⟩) fun d m3 q => ?_)
      obtain ⟨rfl, rfl⟩ := q
      exact ⟨_, _, by unfold jud; rw [likB_none]; rfl, E ++ [none], rfl, by simp, by unfold jud; simp⟩
    | spl t ts =>
      have ht : (1 ≤ ts.length ∧ ts.length ≤ 8) ∧ TsOk ts := by unfold TOk at ht; exact ht
      have hdd : cs.length + (deps ts + 1) ≤ 100 := by unfold dep at hd; exact hd
      have hss : E.length + (szs ts + 1) ≤ 10000000 := by unfold sz at hl; exact hl
      have hkk : deps ts + 1 < k + 1 := by unfold dep at hk; exact hk
      refine wp_ifs1 (b := false) (evt_to (evt_and1 (evt_B1 (by walk_at "e")) fun _ => evt_and1 (b := false) (evt_test1 (ev_eqS (ev_ixE (i := 0) (by walk_at "e") rfl) (by walk_at "e") rfl)) fun q => by cases q) rfl) (fun q => by cases q) fun _ => ?_
      refine wp_ifs1 (b := false) (evt_to (evt_and1 (evt_B1 (by walk_at "e")) fun _ => evt_and1 (b := false) (evt_test1 (ev_eqS (ev_ixE (i := 0) (by walk_at "e") rfl) (by walk_at "e") rfl)) fun q => by cases q) rfl) (fun q => by cases q) fun _ => ?_
      refine wp_ifs1 (b := true) (evt_to (evt_and1 (evt_B1 (by walk_at "e")) fun _ => evt_and1 (evt_test1 (ev_eqS (ev_ixE (i := 0) (by walk_at "e") rfl) (by walk_at "e") rfl)) fun _ => evt_test1 (ev_eqI (ev_lenT (by walk_at "e")) (by walk_at "e"))) rfl) (fun _ => ?_) fun q => by cases q
      have e1 : ∀ {r : Rho} {m : Mu}, r[1]? = some (some (dTr (.spl t ts))) → Ev1 r m (tOp (rIxT K) (tVar 1) (tC (.int 1))) (dp t) := fun h => ev_ixE (i := 1) (ev_var h) rfl
      have e2 : ∀ {r : Rho} {m : Mu}, r[1]? = some (some (dTr (.spl t ts))) → Ev1 r m (tOp (rIxT K) (tVar 1) (tC (.int 2))) (.tup (ts.map dTr)) := fun h => ev_to (ev_ixE (i := 2) (d := .tup (dTrs ts)) (ev_var h) rfl) (by rw [dTrs_map])
      refine q_asg1 (d := .bl (ptsOk n [t.1, t.2] && (true && (decide (t.1 < t.2) && !(cget cs t).isSome)))) (ev_andV1 (ev_callP (APts.mk n [t.1, t.2]) (eva_cons1 (by walk_at "e") (eva_cons1 (e1 rfl) eva_nil)) (by show 2 ≤ 1000; omega)) fun _ => ev_andV1 (ev_to (ev_eqI (ev_lenT (e1 rfl)) ev_int) rfl) fun _ => ev_andV1 (ev_to (ev_lt (ev_ixE (i := 0) (e1 rfl) rfl) (ev_ixE (i := 1) (e1 rfl) rfl)) ?_) fun _ => ev_to (ev_dnotIn (k := iT t) (.inl rfl) (e1 rfl) (by walk_at "e")) ?_) ?_
      · congr 1
        exact decide_eq_decide.mpr (by omega)
      · rw [dget_cI]
        cases cget cs t <;> rfl
      refine q_asg1 (d := .bl (splOk ws n cs t ts)) (ev_andV1 (by walk_at "e") fun _ => ev_andV1 (ev_isi (t := "tuple") (u := "tuple") (b := true) (e2 rfl) rfl rfl) fun _ => ev_to (ev_eqI (ev_lenT (e2 rfl)) (ev_lenT (by walk_at "e"))) (by rw [dec_nat, List.length_map, List.length_map])) ?_
      by_cases hs : splOk ws n cs t ts = true
      rotate_left
      · have hs : splOk ws n cs t ts = false := by simpa using hs
        rw [hs]
        have hj : jud ws n (swapsN ws) (.spl t ts) cs E = (false, E ++ [some cs]) := by unfold jud; rw [hs, if_neg Bool.false_ne_true]
        rw [hj]
        refine wp_forT (List.range 0) (fun (j : Nat) => D.int (j : Int)) (fun i r' m' => r' = [some (scn ws n), some (dTr (.spl t ts)), some (dC cs), some (.vol e), some (dDm ws), some (dn n), some (.lst ((swapsN ws).map dT)), some (dn E.length), some (.bl false), none, none] ∧ m' = pt m e (.lst ((E ++ [none]).map dE))) (src_rngN (n := 0) (eva_cons1 (ev_to (ev_mul (ev_lenT (by walk_at "e")) (ev_int1 (by walk_at "e")) ?_) (by simp)) eva_nil) (by omega)) ⟨rfl, rfl⟩ (fun _ _ _ _ => trivial) (fun B i a r' m' hB ha hj => by cases ha) fun r' m' hj => ?_
        · exact mul_small (by rw [List.length_map]; omega) (.inl (by simp))
        · obtain ⟨rfl, rfl⟩ := hj
          exact ⟨_, _, rfl, E ++ [none], rfl, by simp, by simp⟩
      rw [hs]
      obtain ⟨s1, s2, s3⟩ := splOk_iff.mp hs
      have hj : jud ws n (swapsN ws) (.spl t ts) cs E = ((juds ws n (swapsN ws) t ts 0 cs (E ++ [none])).1, (juds ws n (swapsN ws) t ts 0 cs (E ++ [none])).2.set E.length (some cs)) := by
        conv => lhs; unfold jud
        rw [if_pos hs]
      rw [hj]
      obtain ⟨J0, hJ0⟩ : ∃ J0, J0 = juds ws n (swapsN ws) t ts 0 cs (E ++ [none]) := ⟨_, rfl⟩
      rw [← hJ0]
      refine wp_forT (List.range ws.length) (fun (j : Nat) => D.int (j : Int)) (fun i r' m' => ∃ (o9 o10 : Option D) (b : Bool) (Ei : Es), r' = [some (scn ws n), some (dTr (.spl t ts)), some (dC cs), some (.vol e), some (dDm ws), some (dn n), some (.lst ((swapsN ws).map dT)), some (dn E.length), some (.bl b), o9, o10] ∧ m' = pt m e (.lst (Ei.map dE)) ∧ EOk n ws.length Ei ∧ E ++ [none] <+: Ei ∧ Ei.length + szs (ts.drop i) ≤ E.length + 1 + szs ts ∧ ((b = true ∧ J0 = juds ws n (swapsN ws) t (ts.drop i) i cs Ei) ∨ (b = false ∧ J0 = (false, Ei)))) (src_rngN (n := ws.length) (eva_cons1 (ev_to (ev_mul (ev_lenT (by walk_at "e")) (ev_int1 (by walk_at "e")) ?_) (by simp)) eva_nil) (by omega)) ⟨none, none, true, E ++ [none], rfl, rfl, hE.snoc fun _ q => (by cases q), List.prefix_refl _, by rw [List.length_append]; exact Nat.le_refl _, .inl ⟨rfl, hJ0⟩⟩ (fun _ _ _ _ => trivial) (fun B i a r' m' hB ha hj => ?_) fun r' m' hj => ?_
      · exact mul_small (by rw [List.length_map]; omega) (.inr (by simp))
      · obtain ⟨o9, o10, b, Ei, rfl, rfl, hEi, hpre, hlen, hb⟩ := hj
        have hi : i < ws.length := by have := (List.getElem?_eq_some_iff.mp ha).1; rw [List.length_range] at this; exact this
        have ea : a = i := by rw [List.getElem?_range hi] at ha; exact (Option.some.inj ha).symm
        subst ea
        have hits : a < ts.length := by omega
        have hdrop : ts.drop a = ts[a] :: ts.drop (a + 1) := List.drop_eq_getElem_cons hits
        have hxm : ts[a] ∈ ts := List.getElem_mem hits
        have hxd := dep_mem hxm
        rw [hdrop] at hlen hb
        rw [szs_cons] at hlen
        have hdm : ∀ c, dm (pt m e c) = dm m := fun c => dm_pt_of hedm
        refine ⟨_, _, gd_name, q_asgV (ev_dcopy (.inl rfl) (by walk_at "e") (fun p hp => ?_) (.inr rfl)) fun l2 hl2 => ?_⟩
        · obtain ⟨q, hq, rfl⟩ := List.mem_map.mp hp
          have := hc.k q hq
          exact ⟨q.1.1, q.1.2, rfl, by omega, by omega⟩
        have hl2m : ¬ dm m l2 := by rw [hdm] at hl2; exact hl2
        refine wp_seq (wp_dput (k := iT t) (i := (a : Int)) (by walk_at "e") (by walk_at "e") (e1 rfl) pt_same (by rw [List.length_map]; omega) ?_)
        refine wp_freeze (i := 10) (d := dC (cput cs t a)) rfl pt_same (by rw [dput_cI]; rfl) (fun B' hB' => ?_) ?_
        · rcases List.mem_cons.mp hB' with rfl | hB'
          · rw [hB, hdm]; exact hl2m
          · rw [hA B' hB']; exact hl2m
        rw [pt_pt, rm_pt hl2]
        rcases hb with ⟨rfl, hb⟩ | ⟨rfl, hb⟩
        · refine wp_asg (ev_andV (R1 := Is (.bl true) (pt m e (.lst (Ei.map dE)))) (by walk_at "e") (fun d m3 q => ⟨true, q.1⟩) (fun m3 q => ?_) fun m3 q => by cases q.1)
          obtain ⟨_, rfl⟩ := q
          refine ev_callT1 (AJud.mk ws n ts[a] (cput cs t a) e Ei) (eva_cons1 (by walk_at "e") (eva_cons1 (ev_ixT (i := (a : Int)) (e2 rfl) (by walk_at "e") (atI_n (by rw [List.getElem?_map, List.getElem?_eq_getElem hits]; rfl))) (by walk_at "e"))) ⟨by show dep ts[a] < k; omega, pt_same, hw, hn, TsOk_iff.mp ht.2 _ hxm, hc.put s2 s1 hi (by omega), ?_, hEi, by show Ei.length + sz ts[a] ≤ _; omega⟩ fun d m4 q => ?_
          · rw [cput_new s2, List.length_append]; show cs.length + 1 + dep ts[a] ≤ 100; omega
          · obtain ⟨rfl, rfl⟩ := q
            have q := jud_ok (ws := ws) (n := n) (sws := swapsN ws) ts[a] (hc.put s2 s1 hi (by omega)) (by rw [cput_new s2, List.length_append]; show cs.length + 1 + _ ≤ _; omega) hEi
            refine ⟨_, _, _, _, rfl, by rw [pt_pt], q.ok, hpre.trans q.pre, by have := q.len; omega, ?_⟩
            unfold juds at hb
            cases hx : (jud ws n (swapsN ws) ts[a] (cput cs t a) Ei).1 with
            | true => rw [hx, if_pos rfl] at hb; exact .inl ⟨rfl, hb⟩
            | false => rw [hx, if_neg Bool.false_ne_true] at hb; exact .inr ⟨rfl, hb⟩
        · refine wp_asg (ev_mono (ev_andV1 (a := false) (b := false) (by walk_at "e") fun q => by cases q) fun d m4 q => ?_)
          obtain ⟨rfl, rfl⟩ := q
          exact ⟨_, _, false, Ei, rfl, rfl, hEi, hpre, by omega, .inr ⟨rfl, hb⟩⟩
      · obtain ⟨o9, o10, b, Ei, rfl, rfl, hEi, hpre, hlen, hb⟩ := hj
        rw [List.length_range, ← s3, List.drop_length] at hb
        have hb2 : J0 = (b, Ei) := by
          rcases hb with ⟨rfl, hb⟩ | ⟨rfl, hb⟩
          · unfold juds at hb; exact hb
          · exact hb
        rw [hb2]
        exact ⟨_, _, rfl, Ei, rfl, by have := hpre.length_le; rw [List.length_append] at this; exact this, rfl⟩
end Hue
namespace Hue
open PySem PySem.Spec PyProof.Rows L2 DL
/-- the evaluation of an expression that reckons alone -/
local macro_rules | `(tactic| walk_at "e") => `(tactic| first
  | (with_reducible apply ev_var); rfl
  | (with_reducible exact ev_int)
  | ((with_reducible refine ev_to ev_int ?_); rfl)
  | (with_reducible exact ev_bl)
  | (with_reducible exact ev_str)
  | (with_reducible exact ev_non)
  | (with_reducible exact eva_nil)
  | (with_reducible apply eva_cons1) <;> walk_at "e"
  | (with_reducible apply ev_tup1) <;> walk_at "e"
  | (with_reducible apply ev_add) <;> walk_at "e"
  | (with_reducible apply ev_sub) <;> walk_at "e"
  | (with_reducible apply ev_ixT) <;> walk_at "e"
  | (with_reducible apply ev_ixL) <;> (walk_at "e"; done)
  | (with_reducible apply ev_ixV) <;> walk_at "e"
  | (with_reducible apply ev_lt) <;> walk_at "e"
  | (with_reducible apply ev_le) <;> walk_at "e"
  | (with_reducible apply ev_gt) <;> walk_at "e"
  | (with_reducible apply ev_ge) <;> walk_at "e"
  | (with_reducible apply ev_eqI) <;> (walk_at "e"; done)
  | (with_reducible apply ev_neI) <;> (walk_at "e"; done)
  | (with_reducible apply ev_isN) <;> walk_at "e"
  | (with_reducible apply ev_notN) <;> walk_at "e"
  | (with_reducible apply ev_neg) <;> walk_at "e"
  | (with_reducible apply ev_min2) <;> walk_at "e"
  | (with_reducible apply ev_max2) <;> walk_at "e"
  | (with_reducible apply ev_lenT) <;> (walk_at "e"; done)
  | (with_reducible apply ev_lenL) <;> (walk_at "e"; done)
  | (with_reducible apply ev_lenV) <;> walk_at "e"
  | (with_reducible apply ev_lenD) <;> walk_at "e"
  | (with_reducible apply ev_lst1) <;> walk_at "e"
  | (with_reducible assumption)
  | (with_reducible rfl)
  | rfl
  | exact Nat.le_of_ble_eq_true rfl)
local macro_rules | `(tactic| walk_at "t") => `(tactic| first
  | (with_reducible apply evt_test1) <;> walk_at "e"
  | (with_reducible apply evt_B1) <;> walk_at "e"
  | (with_reducible apply evt_not1) <;> walk_at "t")
/-- the same, brought to the wanted form -/
local macro_rules | `(tactic| walk_at "c") => `(tactic| (refine ev_to (by walk_at "e") ?_; first | rfl | (simp only [D.int.injEq]; omega)))
/-! the program's judge -/
structure JC (K : PySem.W.Frag) (C : Addr) : Prop where
  cl : Cls K C
  a1 : NoAttr K C "webs_judged"
  a2 : NoAttr K C "points_judged"
  a3 : NoAttr K C "swaps_let"
  a4 : NoAttr K C "case_there"
  a5 : NoAttr K C "came_by"
  a6 : NoAttr K C "over_flags"
abbrev Cm := Option Nat × Option Tie × Option Nat
def dO : Option Nat → D
  | none => .non
  | some n => dn n
def dOt : Option Tie → D
  | none => .non
  | some t => dp t
def dCm (c : Cm) : D := .tup [dO c.1, dOt c.2.1, dO c.2.2]
structure JA where
  (J ct cb fl C dx : Addr) (ws : List Web) (n : Nat)
noncomputable def fsJ (j : JA) : List (Str × D) := [("webs_judged", dDm j.ws), ("points_judged", dn j.n), ("swaps_let", .lst ((exN j.ws j.ws.length).map dT)), ("case_there", .vol j.ct), ("came_by", .vol j.cb), ("over_flags", .vol j.fl)]
structure JSt (j : JA) (m : Mu) (th : Case) (came : List Cm) (fl : List Bool) : Prop where
  hj : m j.J = some (.ins j.C j.dx (fsJ j))
  ht : m j.ct = some (.dic (th.map cI))
  hb : m j.cb = some (.lst (came.map dCm))
  hf : m j.fl = some (.lst (fl.map D.bl))
  ne : j.cb ≠ j.fl
/-- the way up from a case is what was settled -/
inductive Chain (came : List Cm) : Option Nat → Case → Prop
  | nil : Chain came none []
  | root {i : Nat} {h : Option Nat} : came[i]? = some (none, none, h) → Chain came (some i) []
  | more {i : Nat} {a : Option Nat} {t : Tie} {h : Nat} {c : Case} : came[i]? = some (a, some t, some h) → (∀ k, a = some k → k < i) → Chain came a c → Chain came (some i) (c ++ [(t, h)])
theorem get_pre {α : Type} {L M : List α} (h : L <+: M) {i : Nat} {x : α} (e : L[i]? = some x) : M[i]? = some x := by
  obtain ⟨t, rfl⟩ := h
  rw [List.getElem?_append_left (List.getElem?_eq_some_iff.mp e).1]; exact e
theorem Chain.mono {came came' : List Cm} {o : Option Nat} {c : Case} (h : Chain came o c) (p : came <+: came') : Chain came' o c := by
  induction h with
  | nil => exact .nil
  | root e => exact .root (get_pre p e)
  | more e k _ ih => exact .more (get_pre p e) k ih
structure Rel (came : List Cm) (fl : List Bool) (E : Es) : Prop where
  l1 : came.length = E.length
  l2 : fl.length = E.length
  y : ∀ i : Nat, fl[i]? = some true → ∃ old, E[i]? = some (some old) ∧ Chain came (some i) old
  f : ∀ i : Nat, fl[i]? = some false → E[i]? = some none
def dSt (p : Tie × Nat) : D := .tup [dp p.1, dn p.2]
section
variable {K : PySem.W.Frag} {j : JA} {m : Mu} {th : Case} {came : List Cm} {fl : List Bool} {r : Rho}
theorem ev_came {i : Nat} (c : JC K j.C) (s : JSt j m th came fl) (h : r[i]? = some (some (.vol j.J))) : Ev1 r m (tFld K (tVar i) "came_by") (.vol j.cb) := ev_fld (ev_var h) s.hj c.cl c.a5 rfl
theorem ev_there {i : Nat} (c : JC K j.C) (s : JSt j m th came fl) (h : r[i]? = some (some (.vol j.J))) : Ev1 r m (tFld K (tVar i) "case_there") (.vol j.ct) := ev_fld (ev_var h) s.hj c.cl c.a4 rfl
theorem ev_flags {i : Nat} (c : JC K j.C) (s : JSt j m th came fl) (h : r[i]? = some (some (.vol j.J))) : Ev1 r m (tFld K (tVar i) "over_flags") (.vol j.fl) := ev_fld (ev_var h) s.hj c.cl c.a6 rfl
theorem ev_webs {i : Nat} (c : JC K j.C) (s : JSt j m th came fl) (h : r[i]? = some (some (.vol j.J))) : Ev1 r m (tFld K (tVar i) "webs_judged") (dDm j.ws) := ev_fld (ev_var h) s.hj c.cl c.a1 rfl
theorem ev_npts {i : Nat} (c : JC K j.C) (s : JSt j m th came fl) (h : r[i]? = some (some (.vol j.J))) : Ev1 r m (tFld K (tVar i) "points_judged") (dn j.n) := ev_fld (ev_var h) s.hj c.cl c.a2 rfl
theorem ev_swlet {i : Nat} (c : JC K j.C) (s : JSt j m th came fl) (h : r[i]? = some (some (.vol j.J))) : Ev1 r m (tFld K (tVar i) "swaps_let") (.lst ((exN j.ws j.ws.length).map dT)) := ev_fld (ev_var h) s.hj c.cl c.a3 rfl
end
structure ASet where
  (j : JA) (th : Case) (came : List Cm) (fl : List Bool) (i : Nat) (old : Case)
abbrev spSettled (C : Addr) : Sp := spT (α := ASet) (fun a => [.vol a.j.J, dn a.i]) (fun a m => a.j.C = C ∧ JSt a.j m a.th a.came a.fl ∧ Chain a.came (some a.i) a.old ∧ a.old.length ≤ 100) fun a m => Is (.lst (a.old.reverse.map dSt)) m
theorem isNon_dO (o : Option Nat) : isNonD (dO o) = o.isNone := by cases o <;> rfl
def upN : Option Nat → Nat
  | none => 0
  | some i => i + 1
theorem b_settled {K : PySem.W.Frag} {C : Addr} {j : JA} {th : Case} {came : List Cm} {fl : List Bool} {i : Nat} {old : Case} {m : Mu} (c : JC K C) (h : j.C = C ∧ JSt j m th came fl ∧ Chain came (some i) old ∧ old.length ≤ 100) {A : List Anc} (hA : ∀ B ∈ A, B.M = dm m) :
    Wp A (start0 6 [.vol j.J, dn i]) m (t_settled_of K C) (PFT (Is (.lst (old.reverse.map dSt)) m) m) := by
  obtain ⟨rfl, hs, hc, hlen⟩ := h
  unfold t_settled_of
  refine q_asgV (ev_lstV eva_nil) fun l hl => ?_
  have hs' : ∀ c, JSt j (pt m l c) th came fl := fun c => ⟨by rw [pt_ne (ne_dm (dm_of hs.hj) hl)]; exact hs.hj, by rw [pt_ne (ne_dm (dm_of hs.ht) hl)]; exact hs.ht, by rw [pt_ne (ne_dm (dm_of hs.hb) hl)]; exact hs.hb, by rw [pt_ne (ne_dm (dm_of hs.hf) hl)]; exact hs.hf, hs.ne⟩
  refine q_cut (fun r' m' => ∃ o3 o4 o5 : Option D, r' = [some (.vol j.J), some .non, some (.vol l), o3, o4, o5] ∧ m' = pt m l (.lst (old.reverse.map dSt))) (wp_while (fun n r' m' => ∃ (o : Option Nat) (acc cs : Case) (o3 o4 o5 : Option D), r' = [some (.vol j.J), some (dO o), some (.vol l), o3, o4, o5] ∧ m' = pt m l (.lst (acc.map dSt)) ∧ Chain came o cs ∧ acc ++ cs.reverse = old.reverse ∧ upN o = n) ⟨_, some i, [], old, none, none, none, rfl, rfl, hc, rfl, rfl⟩ fun n r' m' hj => ?_) fun r' m' hj => ?_
  · obtain ⟨o, acc, cs, o3, o4, o5, rfl, rfl, hch, hacc, rfl⟩ := hj
    refine evt_mono (evt_B1 (ev_notN (by walk_at "e"))) fun b m2 q => ?_
    obtain ⟨rfl, rfl⟩ := q
    rw [isNon_dO]
    have hal : acc.length ≤ 100 := by
      have := congrArg List.length hacc
      rw [List.length_append, List.length_reverse, List.length_reverse] at this
      omega
    cases hch with
    | nil =>
      rw [if_neg (by decide)]
      rw [List.reverse_nil, List.append_nil] at hacc
      exact ⟨_, _, _, rfl, by rw [hacc]⟩
    | @root i' h he =>
      rw [if_pos (by rfl)]
      rw [List.reverse_nil, List.append_nil] at hacc
      refine q_asgG (d := dCm (none, none, h)) (ev_ixV (i := (i' : Int)) (ev_came c (hs' _) rfl) (by walk_at "e") (hs' _).hb (atI_n (by rw [List.getElem?_map, he]; rfl))) (gd_tup (gdl_cons gd_name (gdl_cons gd_name (gdl_cons gd_name gdl_nil)))) ?_
      refine q_if (b := false) (evt_B1 (ev_to (ev_notN (by walk_at "e")) rfl)) (fun q => by cases q) fun _ => ?_
      refine wp_asg (ev_mono (ev_var rfl) fun d m3 q => ?_)
      obtain ⟨rfl, rfl⟩ := q
      exact ⟨_, (by show 0 < i' + 1; omega), none, acc, [], _, _, _, rfl, rfl, .nil, by rw [List.reverse_nil, List.append_nil]; exact hacc, rfl⟩
    | @more i' a t h c' he hk hch =>
      rw [if_pos (by rfl)]
      rw [List.reverse_append] at hacc
      refine q_asgG (d := dCm (a, some t, some h)) (ev_ixV (i := (i' : Int)) (ev_came c (hs' _) rfl) (by walk_at "e") (hs' _).hb (atI_n (by rw [List.getElem?_map, he]; rfl))) (gd_tup (gdl_cons gd_name (gdl_cons gd_name (gdl_cons gd_name gdl_nil)))) ?_
      refine q_cut (fun r3 m3 => r3 = [some (.vol j.J), some (dn i'), some (.vol l), some (dO a), some (dp t), some (dn h)] ∧ m3 = pt m l (.lst ((acc ++ [(t, h)]).map dSt))) (wp_ifs1 (b := true) (evt_B1 (ev_to (ev_notN (by walk_at "e")) rfl)) (fun _ => wp_drop (ev_mono (ev_append1 (d := dSt (t, h)) (by walk_at "e") pt_same (by show Ev1 _ _ _ (.tup [dp t, dn h]); walk_at "e") (by rw [List.length_map]; omega)) fun d m3 q => ?_)) fun q => by cases q) fun r3 m3 q => ?_
      · obtain ⟨rfl, rfl⟩ := q
        exact ⟨rfl, by rw [pt_pt]; simp⟩
      · obtain ⟨rfl, rfl⟩ := q
        refine wp_asg (ev_mono (ev_var rfl) fun d m3 q => ?_)
        obtain ⟨rfl, rfl⟩ := q
        refine ⟨upN a, ?_, a, acc ++ [(t, h)], c', _, _, _, rfl, rfl, hch, by rw [List.append_assoc]; exact hacc, rfl⟩
        cases a with
        | none => show 0 < i' + 1; omega
        | some a => have := hk a rfl; show a + 1 < i' + 1; omega
  · obtain ⟨o3, o4, o5, rfl, rfl⟩ := hj
    refine wp_freeze (i := 2) rfl pt_same rfl (fun B' hB' => by rw [hA B' hB']; exact hl) ?_
    rw [rm_pt hl]
    refine wp_ret (ev_mono (ev_var rfl) fun d m3 q => ?_)
    obtain ⟨rfl, rfl⟩ := q
    show FinT _ _ _ _
    exact fin1 (.refl _) rfl
structure AJG where
  (j : JA) (th : Case) (came : List Cm) (fl : List Bool) (col : Nat) (g : List Nat)
abbrev spGrpH (C : Addr) : Sp := spT (α := AJG) (fun a => [.vol a.j.J, dn a.col, dT a.g]) (fun a m => a.j.C = C ∧ JSt a.j m a.th a.came a.fl ∧ DemOk a.j.ws ∧ a.g.length ≤ 1000) fun a m => Is (.bl (grpB a.j.ws a.j.n a.th a.col a.g)) m
theorem b_grpH {K : PySem.W.Frag} {C : Addr} {j : JA} {th : Case} {came : List Cm} {fl : List Bool} {col : Nat} {g : List Nat} {m : Mu} (c : JC K C) (h : j.C = C ∧ JSt j m th came fl ∧ DemOk j.ws ∧ g.length ≤ 1000) {A : List Anc} :
    Wp A (start0 4 [.vol j.J, dn col, dT g]) m (t_group_holds K C spIsGroup spPts spWhole) (PFT (Is (.bl (grpB j.ws j.n th col g)) m) m) := by
  obtain ⟨rfl, s, hw, hg⟩ := h
  unfold t_group_holds
  refine q_if (b := !true || !(decide ((0 : Int) ≤ (col : Int)) && decide ((col : Int) < (((j.ws.map dW).length : Nat) : Int)))) (evt_or1 (evt_not1 (evt_B1 (ev_callP (AOne.mk col) (by walk_at "e") trivial))) fun _ => evt_not1 (evt_test1 (ev_chainB ev_int (by walk_at "e") o_le (ev_lenT (ev_webs c s rfl)) o_lt))) (fun e => ?_) fun e => ?_
  · refine wp_ret (ev_mono ev_bl fun d m3 e3 => ?_)
    obtain ⟨rfl, rfl⟩ := e3
    have hf : grpB j.ws j.n th col g = false := by
      unfold grpB
      rw [decide_eq_false (p := col < j.ws.length)]
      · rfl
      · intro hc
        rw [decide_eq_true (by omega), decide_eq_true (by rw [List.length_map]; omega)] at e
        cases e
    rw [hf]
    show FinT _ _ _ _
    exact fin1 (.refl _) rfl
  have hc : col < j.ws.length := by
    rcases Nat.lt_or_ge col j.ws.length with h | h
    · exact h
    · rw [decide_eq_false (p := (col : Int) < _) (by rw [List.length_map]; omega), Bool.and_false] at e
      cases e
  have wok := hw.w _ (nWeb_mem hc)
  have hE : grpB j.ws j.n th col g = (ptsOk j.n g && (decide (g.length = (nWeb j.ws col).1) && groupB th (nWeb j.ws col) col g)) := by
    unfold grpB
    rw [decide_eq_true hc, Bool.true_and]
  rw [hE]
  refine q_asg1 (d := dW (nWeb j.ws col)) (ev_web (ev_webs c s rfl) (by walk_at "e") hc) ?_
  refine q_if (b := !(ptsOk j.n g) || !decide (g.length = (nWeb j.ws col).1)) (evt_or1 (evt_not1 (evt_B1 (ev_callP (APts.mk j.n g) (eva_cons1 (ev_npts c s rfl) (by walk_at "e")) hg))) fun _ => evt_t (ev_neI (ev_lenT (by walk_at "e")) (ev_many rfl)) (by rw [dec_nat, List.length_map])) (fun e => ?_) fun e => ?_
  · refine wp_ret (ev_mono ev_bl fun d m3 e3 => ?_)
    obtain ⟨rfl, rfl⟩ := e3
    have hf : (ptsOk j.n g && (decide (g.length = (nWeb j.ws col).1) && groupB th (nWeb j.ws col) col g)) = false := by
      cases h1 : ptsOk j.n g with
      | false => rfl
      | true =>
        rw [h1] at e
        cases h2 : decide (g.length = (nWeb j.ws col).1) with
        | false => rfl
        | true => rw [h2] at e; cases e
    rw [hf]
    show FinT _ _ _ _
    exact fin1 (.refl _) rfl
  have hp : ptsOk j.n g = true := by
    cases h1 : ptsOk j.n g with
    | true => rfl
    | false => rw [h1] at e; cases e
  have hl : g.length = (nWeb j.ws col).1 := by
    rw [hp] at e
    have e : (!decide (g.length = (nWeb j.ws col).1)) = false := e
    simpa using e
  rw [hp, decide_eq_true hl, Bool.true_and, Bool.true_and]
  refine wp_ret (ev_mono (ev_callP (AGrp.mk (.vol j.ct) th (nWeb j.ws col) col g) (eva_cons1 (ev_there c s rfl) (by walk_at "e")) ⟨.inr ⟨_, rfl, s.ht⟩, wok, hl⟩) fun d m3 e3 => ?_)
  obtain ⟨rfl, rfl⟩ := e3
  show FinT _ _ _ _
  exact fin1 (.refl _) rfl
end Hue
namespace Hue
open PySem PySem.Spec PyProof.Rows L2 DL
/-- the evaluation of an expression that reckons alone -/
local macro_rules | `(tactic| walk_at "e") => `(tactic| first
  | (with_reducible apply ev_var); rfl
  | (with_reducible exact ev_int)
  | ((with_reducible refine ev_to ev_int ?_); rfl)
  | (with_reducible exact ev_bl)
  | (with_reducible exact ev_str)
  | (with_reducible exact ev_non)
  | (with_reducible exact eva_nil)
  | (with_reducible apply eva_cons1) <;> walk_at "e"
  | (with_reducible apply ev_tup1) <;> walk_at "e"
  | (with_reducible apply ev_add) <;> walk_at "e"
  | (with_reducible apply ev_sub) <;> walk_at "e"
  | (with_reducible apply ev_ixT) <;> walk_at "e"
  | (with_reducible apply ev_ixL) <;> (walk_at "e"; done)
  | (with_reducible apply ev_ixV) <;> walk_at "e"
  | (with_reducible apply ev_lt) <;> walk_at "e"
  | (with_reducible apply ev_le) <;> walk_at "e"
  | (with_reducible apply ev_gt) <;> walk_at "e"
  | (with_reducible apply ev_ge) <;> walk_at "e"
  | (with_reducible apply ev_eqI) <;> (walk_at "e"; done)
  | (with_reducible apply ev_neI) <;> (walk_at "e"; done)
  | (with_reducible apply ev_isN) <;> walk_at "e"
  | (with_reducible apply ev_notN) <;> walk_at "e"
  | (with_reducible apply ev_neg) <;> walk_at "e"
  | (with_reducible apply ev_min2) <;> walk_at "e"
  | (with_reducible apply ev_max2) <;> walk_at "e"
  | (with_reducible apply ev_lenT) <;> (walk_at "e"; done)
  | (with_reducible apply ev_lenL) <;> (walk_at "e"; done)
  | (with_reducible apply ev_lenV) <;> walk_at "e"
  | (with_reducible apply ev_lenD) <;> walk_at "e"
  | (with_reducible apply ev_lst1) <;> walk_at "e"
  | (with_reducible assumption)
  | (with_reducible rfl)
  | rfl
  | exact Nat.le_of_ble_eq_true rfl)
local macro_rules | `(tactic| walk_at "t") => `(tactic| first
  | (with_reducible apply evt_test1) <;> walk_at "e"
  | (with_reducible apply evt_B1) <;> walk_at "e"
  | (with_reducible apply evt_not1) <;> walk_at "t")
/-- the same, brought to the wanted form -/
local macro_rules | `(tactic| walk_at "c") => `(tactic| (refine ev_to (by walk_at "e") ?_; first | rfl | (simp only [D.int.injEq]; omega)))
/-! like, on the program's side -/
theorem ptsOk_len {n : Nat} {L : List Nat} : True := trivial
structure AJL where
  (j : JA) (th : Case) (came : List Cm) (fl : List Bool) (E : Es) (k : Nat) (ps sw : List Nat)
structure PJL (C : Addr) (j : JA) (th : Case) (came : List Cm) (fl : List Bool) (E : Es) (ps sw : List Nat) (m : Mu) : Prop where
  hC : j.C = C
  hs : JSt j m th came fl
  hr : Rel came fl E
  hw : DemOk j.ws
  hE : EOk j.n j.ws.length E
  hp : ps.length ≤ 8
  hq : sw.length ≤ 8
abbrev spLikeH (C : Addr) : Sp := spT (α := AJL) (fun a => [.vol a.j.J, dn a.k, dT a.ps, dT a.sw]) (fun a m => PJL C a.j a.th a.came a.fl a.E a.ps a.sw m) fun a m => Is (.bl (likB a.j.n (exN a.j.ws a.j.ws.length) a.th a.E a.k a.ps a.sw)) m
theorem b_likeH {K : PySem.W.Frag} {C : Addr} {j : JA} {th : Case} {came : List Cm} {fl : List Bool} {E : Es} {k : Nat} {ps sw : List Nat} {m : Mu} (c : JC K C) (h : PJL C j th came fl E ps sw m) {A : List Anc} :
    Wp A (start0 10 [.vol j.J, dn k, dT ps, dT sw]) m (t_like_holds K C spTie (spSettled C) spWhole spPts) (PFT (Is (.bl (likB j.n (exN j.ws j.ws.length) th E k ps sw)) m) m) := by
  obtain ⟨rfl, s, hr, hw, hE, hp8, hw8⟩ := h
  unfold t_like_holds
  have no : ∀ {r : Rho} {nx bk ct : Rho → Mu → Prop}, likB j.n (exN j.ws j.ws.length) th E k ps sw = false → Wp A r m (tRet (tC (.bl false))) { nx := nx, rt := FinT (Is (.bl (likB j.n (exN j.ws j.ws.length) th E k ps sw)) m) m, bk := bk, ct := ct } := fun hf => by
    refine wp_ret (ev_mono ev_bl fun d m3 e3 => ?_)
    obtain ⟨rfl, rfl⟩ := e3
    rw [hf]
    show FinT _ _ _ _
    exact fin1 (.refl _) rfl
  by_cases hk : k < fl.length
  rotate_left
  · refine q_if (b := !true || (!(decide ((0 : Int) ≤ (k : Int)) && decide ((k : Int) < (((fl.map D.bl).length : Nat) : Int))) || true)) (evt_or1 (evt_not1 (evt_B1 (ev_callP (AOne.mk k) (by walk_at "e") trivial))) fun _ => evt_or1 (evt_not1 (evt_test1 (ev_chainB ev_int (by walk_at "e") o_le (ev_lenV (ev_flags c s rfl) s.hf) o_lt))) fun q => ?_) (fun _ => no ?_) fun q => ?_
    · rw [decide_eq_false (p := (k : Int) < _) (by rw [List.length_map]; omega), Bool.and_false] at q
      cases q
    · unfold likB
      rw [List.getElem?_eq_none (by have := hr.l2; omega)]
    · rw [Bool.or_true] at q
      cases q
  have hF : fl[k]? = some fl[k] := List.getElem?_eq_getElem hk
  have tst : EvT1 (start0 10 [.vol j.J, dn k, dT ps, dT sw]) m (tOr (tNot (tB (tCall spWhole [] E0 (tCons (tVar 1) tNil)))) (tOr (tNot (tTest (tChain rLeI rLtI (tC (.int 0)) (tVar 1) (tCB (rLenS K) (tCons (tFld K (tVar 0) "over_flags") tNil))))) (tNot (tB (tOp (rIxL K) (tFld K (tVar 0) "over_flags") (tVar 1)))))) (!fl[k]) := by
    refine evt_to (evt_or1 (evt_not1 (evt_B1 (ev_callP (AOne.mk k) (by walk_at "e") trivial))) fun _ => evt_or1 (evt_not1 (evt_test1 (ev_chainB ev_int (by walk_at "e") o_le (ev_lenV (ev_flags c s rfl) s.hf) o_lt))) fun _ => evt_not1 (evt_B1 (ev_ixV (ev_flags c s rfl) (by walk_at "e") s.hf (atI_n (by rw [List.getElem?_map, hF]; rfl))))) ?_
    rw [decide_eq_true (p := (k : Int) < _) (by rw [List.length_map]; omega), decide_eq_true (p := (0 : Int) ≤ (k : Int)) (by omega)]
    rfl
  refine q_if tst (fun q => no ?_) fun q => ?_
  · have hf : fl[k] = false := by simpa using q
    rw [hf] at hF
    unfold likB
    rw [hr.f k hF]
  have hf : fl[k] = true := by simpa using q
  rw [hf] at hF
  obtain ⟨old, hEk, hch⟩ := hr.y k hF
  have ook := hE old (List.mem_of_getElem? hEk)
  have hL : likB j.n (exN j.ws j.ws.length) th E k ps sw = (ptsOk j.n ps && (decide (ps.length = j.n) && (decide (sw ∈ exN j.ws j.ws.length) && old.all fun p => decide (cget th (nrm (ps.getD p.1.1 0) (ps.getD p.1.2 0)) = some (sw.getD p.2 0))))) := by
    unfold likB
    rw [hEk]
  refine q_if (b := !(ptsOk j.n ps) || !decide (ps.length = j.n)) (evt_or1 (evt_not1 (evt_B1 (ev_callP (APts.mk j.n ps) (eva_cons1 (ev_npts c s rfl) (by walk_at "e")) (by show ps.length ≤ 1000; omega)))) fun _ => evt_t (ev_neI (ev_lenT (by walk_at "e")) (ev_npts c s rfl)) (by rw [dec_nat, List.length_map])) (fun q => no ?_) fun q => ?_
  · rw [hL]
    cases h1 : ptsOk j.n ps with
    | false => rfl
    | true =>
      rw [h1] at q
      cases h2 : decide (ps.length = j.n) with
      | false => rfl
      | true => rw [h2] at q; cases q
  have hpt : ptsOk j.n ps = true := by
    cases h1 : ptsOk j.n ps with
    | true => rfl
    | false => rw [h1] at q; cases q
  have hpl : ps.length = j.n := by
    rw [hpt] at q
    have q : (!decide (ps.length = j.n)) = false := q
    simpa using q
  refine q_if (b := !true || !true) (evt_or1 (evt_not1 (evt_B1 (ev_isi (t := "tuple") (u := "tuple") (b := true) (by walk_at "e") rfl rfl))) fun _ => evt_not1 (evt_B1 (ev_to (d1 := .bl true) (ev_all (bs := sw.map fun _ => true) (ev_to (ev_lcM sw dn (fun _ => .bl true) (src_tup1 (by walk_at "e")) trivial (fun x hx => ⟨_, [6], by simp, gd_name, ev_callP (AOne.mk x) (by walk_at "e") trivial⟩) (by omega)) ?_)) ?_))) (fun q => by cases q) fun _ => ?_
  · rw [List.map_map]; rfl
  · rw [all_map]; congr 1; exact List.all_eq_true.mpr fun _ _ => rfl
  refine q_if (b := !decide (sw ∈ exN j.ws j.ws.length)) (evt_test1 (ev_op1 (by walk_at "e") (ev_swlet c s rfl) (o_notInD (b := !decide (sw ∈ exN j.ws j.ws.length)) (okD_dT sw) (okD_Ts _) ?_))) (fun q => no ?_) fun q => ?_
  · rw [← dT_memL]; simp
  · rw [hL]
    cases h2 : decide (sw ∈ exN j.ws j.ws.length) with
    | false => simp
    | true => rw [h2] at q; cases q
  have hsw : sw ∈ exN j.ws j.ws.length := by
    cases h2 : decide (sw ∈ exN j.ws j.ws.length) with
    | true => exact of_decide_eq_true h2
    | false => rw [h2] at q; cases q
  have sol := exN_row _ sw hsw
  rw [hL, hpt, decide_eq_true hpl, decide_eq_true hsw, Bool.true_and, Bool.true_and, Bool.true_and]
  refine q_asg1 (d := .vol j.ct) (ev_there c s rfl) ?_
  refine q_asg1 (d := .lst (old.reverse.map dSt)) (ev_methT (R0 := Is (.vol j.J) m) (by walk_at "e") fun d m1 q => ?_) ?_
  · obtain ⟨rfl, rfl⟩ := q
    exact ⟨j.J, fsJ j, j.dx, ASet.mk j th came fl k old, [dn k], rfl, s.hj, rfl, by walk_at "e", rfl, ⟨rfl, s, hch, ook.l⟩, fun _ _ q => q⟩
  refine wp_ret (ev_mono (ev_to (d1 := .bl (old.all fun p => decide (cget th (nrm (ps.getD p.1.1 0) (ps.getD p.1.2 0)) = some (sw.getD p.2 0)))) (ev_all (bs := old.reverse.map fun p => decide (cget th (nrm (ps.getD p.1.1 0) (ps.getD p.1.2 0)) = some (sw.getD p.2 0))) (ev_to (ev_lcM old.reverse dSt (fun p => .bl (decide (cget th (nrm (ps.getD p.1.1 0) (ps.getD p.1.2 0)) = some (sw.getD p.2 0)))) (src_list1 (by walk_at "e")) trivial (fun p hp => ⟨_, _, ?_, gd_tup (gdl_cons (gd_tup (gdl_cons gd_name (gdl_cons gd_name gdl_nil))) (gdl_cons gd_name gdl_nil)), ev_tieGet (.inr ⟨_, rfl, s.ht⟩) (by walk_at "e") (ev_ixT (i := (p.1.1 : Int)) (by walk_at "e") (by walk_at "e") (dn_at ?_)) (ev_ixT (i := (p.1.2 : Int)) (by walk_at "e") (by walk_at "e") (dn_at ?_)) (ev_ixT (i := (p.2 : Int)) (by walk_at "e") (by walk_at "e") (dn_at ?_))⟩) ?_) ?_)) ?_) fun d m3 e3 => ?_)
  · simp
  · have := ook.k p (List.mem_reverse.mp hp); omega
  · have := ook.k p (List.mem_reverse.mp hp); omega
  · rw [sol]; exact ook.v p (List.mem_reverse.mp hp)
  · rw [List.length_reverse]; have := ook.l; omega
  · rw [List.map_map]; rfl
  · rw [all_map, List.all_reverse]
  · obtain ⟨rfl, rfl⟩ := e3
    show FinT _ _ _ _
    exact fin1 (.refl _) rfl
end Hue
namespace Hue
open PySem PySem.Spec PyProof.Rows L2 DL
/-- the evaluation of an expression that reckons alone -/
local macro_rules | `(tactic| walk_at "e") => `(tactic| first
  | (with_reducible apply ev_var); rfl
  | (with_reducible exact ev_int)
  | ((with_reducible refine ev_to ev_int ?_); rfl)
  | (with_reducible exact ev_bl)
  | (with_reducible exact ev_str)
  | (with_reducible exact ev_non)
  | (with_reducible exact eva_nil)
  | (with_reducible apply eva_cons1) <;> walk_at "e"
  | (with_reducible apply ev_tup1) <;> walk_at "e"
  | (with_reducible apply ev_add) <;> walk_at "e"
  | (with_reducible apply ev_sub) <;> walk_at "e"
  | (with_reducible apply ev_ixT) <;> walk_at "e"
  | (with_reducible apply ev_ixL) <;> (walk_at "e"; done)
  | (with_reducible apply ev_ixV) <;> walk_at "e"
  | (with_reducible apply ev_lt) <;> walk_at "e"
  | (with_reducible apply ev_le) <;> walk_at "e"
  | (with_reducible apply ev_gt) <;> walk_at "e"
  | (with_reducible apply ev_ge) <;> walk_at "e"
  | (with_reducible apply ev_eqI) <;> (walk_at "e"; done)
  | (with_reducible apply ev_neI) <;> (walk_at "e"; done)
  | (with_reducible apply ev_isN) <;> walk_at "e"
  | (with_reducible apply ev_notN) <;> walk_at "e"
  | (with_reducible apply ev_neg) <;> walk_at "e"
  | (with_reducible apply ev_min2) <;> walk_at "e"
  | (with_reducible apply ev_max2) <;> walk_at "e"
  | (with_reducible apply ev_lenT) <;> (walk_at "e"; done)
  | (with_reducible apply ev_lenL) <;> (walk_at "e"; done)
  | (with_reducible apply ev_lenV) <;> walk_at "e"
  | (with_reducible apply ev_lenD) <;> walk_at "e"
  | (with_reducible apply ev_lst1) <;> walk_at "e"
  | (with_reducible assumption)
  | (with_reducible rfl)
  | rfl
  | exact Nat.le_of_ble_eq_true rfl)
local macro_rules | `(tactic| walk_at "t") => `(tactic| first
  | (with_reducible apply evt_test1) <;> walk_at "e"
  | (with_reducible apply evt_B1) <;> walk_at "e"
  | (with_reducible apply evt_not1) <;> walk_at "t")
/-- the same, brought to the wanted form -/
local macro_rules | `(tactic| walk_at "c") => `(tactic| (refine ev_to (by walk_at "e") ?_; first | rfl | (simp only [D.int.injEq]; omega)))
/-! the program's walk -/
noncomputable def exs (ws : List Web) : List (List Nat) := exN ws ws.length
noncomputable def judP (j : JA) (x : Tr) (cs : Case) (E : Es) : Bool × Es := jud j.ws j.n (exs j.ws) x cs E
/-- before the case is marked over -/
noncomputable def judR (j : JA) : Tr → Case → Es → Bool × Es
  | .grp c g, cs, E => (grpB j.ws j.n cs c g, E ++ [none])
  | .lik k ps sw, cs, E => (likB j.n (exs j.ws) cs E k ps sw, E ++ [none])
  | .spl t ts, cs, E => if splOk j.ws j.n cs t ts = true then juds j.ws j.n (exs j.ws) t ts 0 cs (E ++ [none]) else (false, E ++ [none])
theorem jud_R (j : JA) (x : Tr) (cs : Case) (E : Es) : judP j x cs E = ((judR j x cs E).1, (judR j x cs E).2.set E.length (some cs)) := by
  unfold judP
  cases x with
  | grp c g => unfold jud judR; simp
  | lik k ps sw => unfold jud judR; simp
  | spl t ts =>
    unfold jud judR
    by_cases hs : splOk j.ws j.n cs t ts = true
    · simp only [hs, if_true]
    · simp [hs]
def Out (j : JA) (m m' : Mu) : Prop := ∀ a, a ≠ j.ct → a ≠ j.cb → a ≠ j.fl → m' a = m a
theorem Out.refl (j : JA) (m : Mu) : Out j m m := fun _ _ _ _ => rfl
theorem Out.trans {j : JA} {m m1 m2 : Mu} (h : Out j m m1) (k : Out j m1 m2) : Out j m m2 := fun a x y z => (k a x y z).trans (h a x y z)
section
variable {j : JA} {m : Mu} {th : Case} {came : List Cm} {fl : List Bool}
theorem JSt.tb (s : JSt j m th came fl) : j.ct ≠ j.cb := fun e => by have := s.ht; rw [e, s.hb] at this; cases this
theorem JSt.tf (s : JSt j m th came fl) : j.ct ≠ j.fl := fun e => by have := s.ht; rw [e, s.hf] at this; cases this
theorem JSt.jt (s : JSt j m th came fl) : j.J ≠ j.ct := fun e => by have := s.ht; rw [← e, s.hj] at this; cases this
theorem JSt.jb (s : JSt j m th came fl) : j.J ≠ j.cb := fun e => by have := s.hb; rw [← e, s.hj] at this; cases this
theorem JSt.jf (s : JSt j m th came fl) : j.J ≠ j.fl := fun e => by have := s.hf; rw [← e, s.hj] at this; cases this
theorem JSt.putB (s : JSt j m th came fl) {c : VC} {came' : List Cm} (e : c = .lst (came'.map dCm)) : JSt j (pt m j.cb c) th came' fl := by
  subst e
  exact ⟨by rw [pt_ne s.jb]; exact s.hj, by rw [pt_ne s.tb]; exact s.ht, pt_same, by rw [pt_ne (Ne.symm s.ne)]; exact s.hf, s.ne⟩
theorem JSt.putF (s : JSt j m th came fl) {c : VC} {fl' : List Bool} (e : c = .lst (fl'.map D.bl)) : JSt j (pt m j.fl c) th came fl' := by
  subst e
  exact ⟨by rw [pt_ne s.jf]; exact s.hj, by rw [pt_ne s.tf]; exact s.ht, by rw [pt_ne s.ne]; exact s.hb, pt_same, s.ne⟩
theorem JSt.putT (s : JSt j m th came fl) {c : VC} {th' : Case} (e : c = .dic (th'.map cI)) : JSt j (pt m j.ct c) th' came fl := by
  subst e
  exact ⟨by rw [pt_ne s.jt]; exact s.hj, pt_same, by rw [pt_ne (Ne.symm s.tb)]; exact s.hb, by rw [pt_ne (Ne.symm s.tf)]; exact s.hf, s.ne⟩
theorem Out.putB {c : VC} : Out j m (pt m j.cb c) := fun a _ h _ => pt_ne h
theorem Out.putF {c : VC} : Out j m (pt m j.fl c) := fun a _ _ h => pt_ne h
theorem Out.putT {c : VC} : Out j m (pt m j.ct c) := fun a h _ _ => pt_ne h
theorem Out.dm {m' : Mu} (h : Out j m m') {th' : Case} {came' : List Cm} {fl' : List Bool} (s : JSt j m' th' came' fl') : ∀ a, DL.dm m a → DL.dm m' a := fun a ha => by
  by_cases h1 : a = j.ct
  · subst h1; exact dm_of s.ht
  by_cases h2 : a = j.cb
  · subst h2; exact dm_of s.hb
  by_cases h3 : a = j.fl
  · subst h3; exact dm_of s.hf
  unfold DL.dm
  rw [h a h1 h2 h3]; exact ha
end
/-- after a walk -/
structure QW (j : JA) (cs : Case) (came : List Cm) (fl : List Bool) (r : Bool × Es) (m : Mu) (d : D) (m' : Mu) : Prop where
  qd : d = .bl r.1
  qo : Out j m m'
  qs : ∃ th' came' fl', JSt j m' th' came' fl' ∧ fl.length ≤ fl'.length ∧ (r.1 = true → th' = cs ∧ came <+: came' ∧ Rel came' fl' r.2)
structure PW0 (C : Addr) (j : JA) (x : Tr) (cs : Case) (E : Es) : Prop where
  hC : j.C = C
  hw : DemOk j.ws
  hn : j.n ≤ 8
  hx : TOk x
  hc : CaseOk j.n j.ws.length cs
  hd : cs.length + dep x ≤ 100
  hE : EOk j.n j.ws.length E
  hl : E.length + sz x ≤ 10000000
structure AW where
  (j : JA) (x : Tr) (cs : Case) (E : Es) (came : List Cm) (fl : List Bool) (a : Option Nat) (t : Option Tie)
def Entry (cs : Case) (came : List Cm) (a : Option Nat) (t : Option Tie) : Prop := (a = none ∧ t = none ∧ cs = []) ∨ ∃ a' t' c pc, a = some a' ∧ t = some t' ∧ cs = pc ++ [(t', c)] ∧ cget cs t' = some c ∧ a' < came.length ∧ Chain came (some a') pc
abbrev spCase (C : Addr) (k : Nat) : Sp := spT (α := AW) (fun a => [.vol a.j.J, dTr a.x, dO a.a, dOt a.t]) (fun a m => dep a.x < k ∧ PW0 C a.j a.x a.cs a.E ∧ JSt a.j m a.cs a.came a.fl ∧ Rel a.came a.fl a.E ∧ Entry a.cs a.came a.a a.t) fun a m d m' => QW a.j a.cs a.came a.fl (judP a.j a.x a.cs a.E) m d m'
abbrev spRow (C : Addr) (k : Nat) : Sp := spT (α := AW) (fun a => [.vol a.j.J, dTr a.x, dn a.E.length]) (fun a m => dep a.x < k ∧ PW0 C a.j a.x a.cs a.E ∧ JSt a.j m a.cs a.came a.fl ∧ Rel a.came a.fl (a.E ++ [none]) ∧ Chain a.came (some a.E.length) a.cs) fun a m d m' => QW a.j a.cs a.came a.fl (judR a.j a.x a.cs a.E) m d m'
structure AS where
  (j : JA) (t : Tie) (ts : List Tr) (cs : Case) (E : Es) (came : List Cm) (fl : List Bool)
abbrev spSplit (C : Addr) (k : Nat) : Sp := spT (α := AS) (fun a => [.vol a.j.J, dp a.t, .tup (a.ts.map dTr), dn a.E.length]) (fun a m => deps a.ts + 1 < k ∧ PW0 C a.j (.spl a.t a.ts) a.cs a.E ∧ JSt a.j m a.cs a.came a.fl ∧ Rel a.came a.fl (a.E ++ [none]) ∧ Chain a.came (some a.E.length) a.cs) fun a m d m' => QW a.j a.cs a.came a.fl (judR a.j (.spl a.t a.ts) a.cs a.E) m d m'
theorem QW.ret {j : JA} {cs : Case} {came : List Cm} {fl : List Bool} {r : Bool × Es} {m : Mu} {d : D} {m' : Mu} (h : QW j cs came fl r m d m') : FinT (QW j cs came fl r m) m d m' := by
  obtain ⟨th', came', fl', s, _⟩ := h.qs
  exact fin_same (h.qo.dm s) h
theorem ok_str {x : Str} (h : PyData.canLay0 (.str x) = true) {n : Nat} : pl (.str x) = true ∧ dpt (.str x) ≤ n := ⟨by unfold pl; exact h, Nat.zero_le _⟩
theorem ok_le {d : D} {a b : Nat} (h : pl d = true ∧ dpt d ≤ a) (k : a ≤ b) : pl d = true ∧ dpt d ≤ b := ⟨h.1, Nat.le_trans h.2 k⟩
mutual
theorem dTr_pl : ∀ x : Tr, pl (dTr x) = true ∧ dpt (dTr x) ≤ 2 * dep x + 2
  | .grp c g => by
    unfold dTr
    refine ok_le (ok_tup 1 fun d hd => ?_) (by omega)
    simp only [List.mem_cons, List.not_mem_nil, or_false] at hd
    rcases hd with rfl | rfl | rfl
    · exact ok_str (by decide +kernel)
    · exact ok_le (ok_dn c) (by omega)
    · exact ok_dT g
  | .lik k ps sw => by
    unfold dTr
    refine ok_le (ok_tup 1 fun d hd => ?_) (by omega)
    simp only [List.mem_cons, List.not_mem_nil, or_false] at hd
    rcases hd with rfl | rfl | rfl | rfl
    · exact ok_str (by decide +kernel)
    · exact ok_le (ok_dn k) (by omega)
    · exact ok_dT ps
    · exact ok_dT sw
  | .spl t ts => by
    have q := ok_tup (2 * deps ts + 2) (dTrs_pl ts)
    unfold dTr dep
    refine ok_le (ok_tup (2 * deps ts + 3) fun d hd => ?_) (by omega)
    simp only [List.mem_cons, List.not_mem_nil, or_false] at hd
    rcases hd with rfl | rfl | rfl
    · exact ok_str (by decide +kernel)
    · exact ok_le (ok_dp t) (by omega)
    · exact q
theorem dTrs_pl : ∀ ts : List Tr, ∀ d ∈ dTrs ts, pl d = true ∧ dpt d ≤ 2 * deps ts + 2
  | [], d, h => by unfold dTrs at h; cases h
  | x :: xs, d, h => by
    unfold dTrs at h
    unfold deps
    rcases List.mem_cons.mp h with rfl | h
    · exact ok_le (dTr_pl x) (by omega)
    · exact ok_le (dTrs_pl xs d h) (by omega)
end
theorem b_case {K : PySem.W.Frag} {C : Addr} {k : Nat} {j : JA} {x : Tr} {cs : Case} {E : Es} {came : List Cm} {fl : List Bool} {a : Option Nat} {t : Option Tie} {m : Mu} (c : JC K C) (hk : dep x < k) (hk30 : k ≤ 31) (p : PW0 C j x cs E) (s : JSt j m cs came fl) (hr : Rel came fl E) (hen : Entry cs came a t) {A : List Anc} :
    Wp A (start0 6 [.vol j.J, dTr x, dO a, dOt t]) m (t_case_holds K C (spRow C k)) (PFT (QW j cs came fl (judP j x cs E) m) m) := by
  obtain ⟨rfl, hw, hn, hx, hc, hd, hE, hl⟩ := p
  have hsz := sz_pos x
  have l1 := hr.l1
  have l2 := hr.l2
  unfold t_case_holds
  refine q_asg1 (d := dn E.length) (ev_to (ev_lenV (ev_came c s rfl) s.hb) (by rw [List.length_map, l1])) ?_
  -- the entry
  obtain ⟨h0, hh0, hch⟩ : ∃ h0 : Option Nat, (∀ r : Rho, r[0]? = some (some (.vol j.J)) → r[3]? = some (some (dOt t)) → Ev1 r m (tDGet1N (tFld K (tVar 0) "case_there") (tVar 3)) (dO h0)) ∧ Chain (came ++ [(a, t, h0)]) (some E.length) cs := by
    rcases hen with ⟨rfl, rfl, rfl⟩ | ⟨a', t', c', pc, rfl, rfl, hcs, hg, ha', hpc⟩
    · refine ⟨none, fun r h1 h2 => ev_dget1N0 (.inr ⟨j.ct, rfl, s.ht⟩) (ev_there c s h1) (ev_var h2), .root (h := none) ?_⟩
      rw [← l1, List.getElem?_append_right (Nat.le_refl _), Nat.sub_self]; rfl
    · refine ⟨some c', fun r h1 h2 => ev_to (ev_dget1N (k := iT t') (.inr ⟨j.ct, rfl, s.ht⟩) (ev_there c s h1) (ev_var h2)) (by rw [dget_cI, hg]; rfl), ?_⟩
      rw [hcs]
      refine .more (a := some a') ?_ (fun k e => by cases e; omega) (hpc.mono ⟨_, rfl⟩)
      rw [← l1, List.getElem?_append_right (Nat.le_refl _), Nat.sub_self]; rfl
  refine q_drop (ev_append1 (d := dCm (a, t, h0)) (ev_came c s rfl) s.hb (ev_tup1 (eva_cons1 (by walk_at "e") (eva_cons1 (by walk_at "e") (eva_cons1 (hh0 _ rfl rfl) eva_nil)))) (by rw [List.length_map]; omega)) fun d m1 q => ?_
  obtain ⟨rfl, rfl⟩ := q
  have s1 := s.putB (came' := came ++ [(a, t, h0)]) (c := .lst (came.map dCm ++ [dCm (a, t, h0)])) (by rw [List.map_append]; rfl)
  have o1 : Out j m _ := Out.putB (c := .lst (came.map dCm ++ [dCm (a, t, h0)]))
  generalize hM1 : pt m j.cb (.lst (came.map dCm ++ [dCm (a, t, h0)])) = m1 at *
  refine q_drop (ev_append1 (d := .bl false) (ev_flags c s1 rfl) s1.hf ev_bl (by rw [List.length_map]; omega)) fun d m2 q => ?_
  obtain ⟨rfl, rfl⟩ := q
  have s2 := s1.putF (fl' := fl ++ [false]) (c := .lst (fl.map D.bl ++ [D.bl false])) (by rw [List.map_append]; rfl)
  have o2 : Out j m _ := o1.trans (Out.putF (c := .lst (fl.map D.bl ++ [D.bl false])))
  generalize hM2 : pt m1 j.fl (.lst (fl.map D.bl ++ [D.bl false])) = m2 at *
  have hr2 : Rel (came ++ [(a, t, h0)]) (fl ++ [false]) (E ++ [none]) := by
    refine ⟨by rw [List.length_append, List.length_append, l1]; rfl, by rw [List.length_append, List.length_append, l2]; rfl, fun i hi => ?_, fun i hi => ?_⟩
    · rcases Nat.lt_or_ge i fl.length with h | h
      · rw [List.getElem?_append_left h] at hi
        obtain ⟨old, h1, h2⟩ := hr.y i hi
        exact ⟨old, get_pre ⟨_, rfl⟩ h1, h2.mono ⟨_, rfl⟩⟩
      · rw [List.getElem?_append_right h] at hi
        cases hq : i - fl.length with
        | zero => rw [hq] at hi; cases hi
        | succ n => rw [hq] at hi; simp at hi
    · rcases Nat.lt_or_ge i fl.length with h | h
      · rw [List.getElem?_append_left h] at hi
        exact get_pre ⟨_, rfl⟩ (hr.f i hi)
      · rw [List.getElem?_append_right h] at hi
        cases hq : i - fl.length with
        | zero => rw [List.getElem?_append_right (by omega), show i - E.length = 0 by omega]; rfl
        | succ n => rw [hq] at hi; simp at hi
  have hh : ∃ y ds, dTr x = .tup (.str y :: ds) := by cases x <;> exact ⟨_, _, rfl⟩
  obtain ⟨y, ds, hh⟩ := hh
  have hok : okD (dTr x) = true := okD_of (dTr_pl x) (by omega)
  refine q_if (b := !true || (false || !true)) (evt_or1 (evt_not1 (evt_B1 (ev_isi (t := "tuple") (u := "tuple") (b := true) (d := dTr x) (by walk_at "e") (by rw [hh]; rfl) rfl))) fun _ => evt_or1 (evt_test1 (ev_eqD (d1 := dTr x) (by walk_at "e") (ev_tup1 eva_nil) hok rfl (by rw [hh]; simp))) fun _ => evt_not1 (evt_B1 (ev_isi (t := "str") (u := "str") (b := true) (d := .str y) (ev_ixE (i := 0) (ds := .str y :: ds) (by rw [← hh]; walk_at "e") rfl) rfl rfl))) (fun q => by cases q) fun _ => ?_
  refine q_asg (R := QW j cs (came ++ [(a, t, h0)]) (fl ++ [false]) (judR j x cs E) m2) (ev_methT (R0 := Is (.vol j.J) m2) (by walk_at "e") fun d m3 q => ?_) fun d m3 q => ?_
  · obtain ⟨rfl, rfl⟩ := q
    exact ⟨j.J, fsJ j, j.dx, AW.mk j x cs E (came ++ [(a, t, h0)]) (fl ++ [false]) none none, [dTr x, dn E.length], rfl, s2.hj, rfl, by walk_at "e", rfl, ⟨hk, ⟨rfl, hw, hn, hx, hc, hd, hE, hl⟩, s2, hr2, hch⟩, fun _ _ q => q⟩
  obtain ⟨rfl, o3, th', came', fl', s3, hfl, hT⟩ := q
  rw [List.length_append] at hfl
  have hfl : fl.length + 1 ≤ fl'.length := hfl
  refine wp_seq (wp_setL (R1 := Is (.bl true) m3) ev_bl fun d m4 q => ?_)
  obtain ⟨rfl, rfl⟩ := q
  refine ⟨j.fl, fl'.map D.bl, E.length, ev_flags c s3 rfl, by walk_at "e", s3.hf, by rw [List.length_map]; omega, ?_⟩
  refine wp_ret (ev_mono (ev_var rfl) fun d m4 q => ?_)
  obtain ⟨rfl, rfl⟩ := q
  show FinT _ _ _ _
  have s4 := s3.putF (fl' := fl'.set E.length true) (c := .lst ((fl'.map D.bl).set E.length (.bl true))) (by rw [List.map_set])
  refine QW.ret ⟨by rw [jud_R], (o2.trans o3).trans Out.putF, th', came', fl'.set E.length true, s4, by rw [List.length_set]; omega, fun hb => ?_⟩
  rw [jud_R] at hb ⊢
  obtain ⟨rfl, hp, hrel⟩ := hT hb
  refine ⟨rfl, (List.prefix_append came [(a, t, h0)]).trans hp, by rw [List.length_set]; exact hrel.l1, by rw [List.length_set, List.length_set]; exact hrel.l2, fun i hi => ?_, fun i hi => ?_⟩
  · by_cases e : E.length = i
    · subst e
      refine ⟨th', ?_, hch.mono hp⟩
      rw [List.getElem?_set_self (by have := hrel.l2; omega)]
    · rw [List.getElem?_set_ne e] at hi
      obtain ⟨old, h1, h2⟩ := hrel.y i hi
      exact ⟨old, by rw [List.getElem?_set_ne e]; exact h1, h2⟩
  · by_cases e : E.length = i
    · subst e
      rw [List.getElem?_set_self (by omega)] at hi
      cases hi
    · rw [List.getElem?_set_ne e] at hi
      rw [List.getElem?_set_ne e]; exact hrel.f i hi
end Hue
namespace Hue
open PySem PySem.Spec PyProof.Rows L2 DL
/-- the evaluation of an expression that reckons alone -/
local macro_rules | `(tactic| walk_at "e") => `(tactic| first
  | (with_reducible apply ev_var); rfl
  | (with_reducible exact ev_int)
  | ((with_reducible refine ev_to ev_int ?_); rfl)
  | (with_reducible exact ev_bl)
  | (with_reducible exact ev_str)
  | (with_reducible exact ev_non)
  | (with_reducible exact eva_nil)
  | (with_reducible apply eva_cons1) <;> walk_at "e"
  | (with_reducible apply ev_tup1) <;> walk_at "e"
  | (with_reducible apply ev_add) <;> walk_at "e"
  | (with_reducible apply ev_sub) <;> walk_at "e"
  | (with_reducible apply ev_ixT) <;> walk_at "e"
  | (with_reducible apply ev_ixL) <;> (walk_at "e"; done)
  | (with_reducible apply ev_ixV) <;> walk_at "e"
  | (with_reducible apply ev_lt) <;> walk_at "e"
  | (with_reducible apply ev_le) <;> walk_at "e"
  | (with_reducible apply ev_gt) <;> walk_at "e"
  | (with_reducible apply ev_ge) <;> walk_at "e"
  | (with_reducible apply ev_eqI) <;> (walk_at "e"; done)
  | (with_reducible apply ev_neI) <;> (walk_at "e"; done)
  | (with_reducible apply ev_isN) <;> walk_at "e"
  | (with_reducible apply ev_notN) <;> walk_at "e"
  | (with_reducible apply ev_neg) <;> walk_at "e"
  | (with_reducible apply ev_min2) <;> walk_at "e"
  | (with_reducible apply ev_max2) <;> walk_at "e"
  | (with_reducible apply ev_lenT) <;> (walk_at "e"; done)
  | (with_reducible apply ev_lenL) <;> (walk_at "e"; done)
  | (with_reducible apply ev_lenV) <;> walk_at "e"
  | (with_reducible apply ev_lenD) <;> walk_at "e"
  | (with_reducible apply ev_lst1) <;> walk_at "e"
  | (with_reducible assumption)
  | (with_reducible rfl)
  | rfl
  | exact Nat.le_of_ble_eq_true rfl)
local macro_rules | `(tactic| walk_at "t") => `(tactic| first
  | (with_reducible apply evt_test1) <;> walk_at "e"
  | (with_reducible apply evt_B1) <;> walk_at "e"
  | (with_reducible apply evt_not1) <;> walk_at "t")
/-- the same, brought to the wanted form -/
local macro_rules | `(tactic| walk_at "c") => `(tactic| (refine ev_to (by walk_at "e") ?_; first | rfl | (simp only [D.int.injEq]; omega)))
theorem cput_last {cs : Case} {t : Tie} {v w : Nat} (h : t ∉ cs.map (·.1)) : cput (cs ++ [(t, v)]) t w = cs ++ [(t, w)] := by
  unfold cput
  rw [if_pos (by simp), List.map_append]
  congr 1
  · conv => rhs; rw [← List.map_id cs]
    apply List.map_congr_left
    intro p hp
    have : p.1 ≠ t := fun e => h (List.mem_map.mpr ⟨p, hp, e⟩)
    rw [if_neg this]; rfl
  · simp
theorem cdrop_last {cs : Case} {t : Tie} {v : Nat} (h : t ∉ cs.map (·.1)) : cdrop (cs ++ [(t, v)]) t = cs := by
  unfold cdrop
  rw [List.filter_append]
  have e : cs.filter (fun p => decide (p.1 ≠ t)) = cs := List.filter_eq_self.mpr fun p hp => decide_eq_true fun e => h (List.mem_map.mpr ⟨p, hp, e⟩)
  rw [e]
  simp
theorem b_split {K : PySem.W.Frag} {C : Addr} {k : Nat} {j : JA} {t : Tie} {ts : List Tr} {cs : Case} {E : Es} {came : List Cm} {fl : List Bool} {m : Mu} (c : JC K C) (hk : deps ts + 1 < k + 1) (p : PW0 C j (.spl t ts) cs E) (s : JSt j m cs came fl) (hr : Rel came fl (E ++ [none])) (hch : Chain came (some E.length) cs) {A : List Anc} :
    Wp A (start0 6 [.vol j.J, dp t, .tup (ts.map dTr), dn E.length]) m (t_split_holds K C (spCase C k) spPts) (PFT (QW j cs came fl (judR j (.spl t ts) cs E) m) m) := by
  obtain ⟨rfl, hw, hn, hx, hc, hd, hE, hl⟩ := p
  have hx : (1 ≤ ts.length ∧ ts.length ≤ 8) ∧ TsOk ts := by unfold TOk at hx; exact hx
  have hd : cs.length + (deps ts + 1) ≤ 100 := by unfold dep at hd; exact hd
  have hl : E.length + (szs ts + 1) ≤ 10000000 := by unfold sz at hl; exact hl
  have h4 := hw.hi
  unfold t_split_holds
  have no : ∀ {r : Rho} {nx bk ct : Rho → Mu → Prop}, splOk j.ws j.n cs t ts = false → Wp A r m (tRet (tC (.bl false))) { nx := nx, rt := FinT (QW j cs came fl (judR j (.spl t ts) cs E) m) m, bk := bk, ct := ct } := fun hf => by
    refine wp_ret (ev_mono ev_bl fun d m3 e3 => ?_)
    obtain ⟨rfl, rfl⟩ := e3
    have hj : judR j (.spl t ts) cs E = (false, E ++ [none]) := by unfold judR; simp [hf]
    rw [hj]
    show FinT _ _ _ _
    exact QW.ret ⟨rfl, Out.refl _ _, cs, came, fl, s, Nat.le_refl _, fun q => by cases q⟩
  have hlt : ∀ {r : Rho}, r[1]? = some (some (dp t)) → Ev1 r m (tOp rGtI (tOp (rIxT K) (tVar 1) (tC (.int 0))) (tOp (rIxT K) (tVar 1) (tC (.int 1)))) (.bl (decide (t.2 < t.1))) := fun h => ev_to (ev_gt (ev_ixE (i := 0) (ev_var h) rfl) (ev_ixE (i := 1) (ev_var h) rfl)) (by congr 1; exact decide_eq_decide.mpr (by omega))
  refine q_if (b := !(ptsOk j.n [t.1, t.2]) || (false || (decide (t.2 < t.1) || (cget cs t).isSome))) (evt_or1 (evt_not1 (evt_B1 (ev_callP (APts.mk j.n [t.1, t.2]) (eva_cons1 (ev_npts c s rfl) (by walk_at "e")) (by show 2 ≤ 1000; omega)))) fun _ => evt_or1 (evt_t (ev_neI (ev_lenT (ds := [dn t.1, dn t.2]) (by walk_at "e")) (by walk_at "e")) rfl) fun _ => evt_or1 (evt_test1 (hlt rfl)) fun _ => evt_B1 (ev_to (ev_din (k := iT t) (.inr ⟨j.ct, rfl, s.ht⟩) (by walk_at "e") (ev_there c s rfl)) (by rw [dget_cI]; cases cget cs t <;> rfl))) (fun q => no ?_) fun q1 => ?_
  · unfold splOk
    cases h1 : ptsOk j.n [t.1, t.2] with
    | false => rfl
    | true =>
      rw [h1] at q
      cases h2 : (cget cs t).isSome with
      | true => simp
      | false =>
        rw [h2] at q
        have : t.2 < t.1 := by simpa using q
        rw [decide_eq_false (p := t.1 < t.2) (by omega)]; simp
  refine q_if (b := !true || !decide (ts.length = j.ws.length)) (evt_or1 (evt_not1 (evt_B1 (ev_isi (t := "tuple") (u := "tuple") (b := true) (d := .tup (ts.map dTr)) (by walk_at "e") rfl rfl))) fun _ => evt_t (ev_neI (ev_lenT (by walk_at "e")) (ev_lenT (ev_webs c s rfl))) (by rw [dec_nat, List.length_map, List.length_map])) (fun q => no ?_) fun q2 => ?_
  · unfold splOk
    cases h2 : decide (ts.length = j.ws.length) with
    | false => simp
    | true => rw [h2] at q; cases q
  have hs : splOk j.ws j.n cs t ts = true := by
    have h3 : ts.length = j.ws.length := by simpa using q2
    rw [splOk_iff]
    cases h1 : ptsOk j.n [t.1, t.2] with
    | false => rw [h1] at q1; cases q1
    | true =>
      rw [h1] at q1
      simp only [Bool.not_true, Bool.false_or, Bool.or_eq_false_iff, decide_eq_false_iff_not, Option.isSome_eq_false_iff, Option.isNone_iff_eq_none] at q1
      unfold ptsOk at h1
      simp at h1
      refine ⟨⟨?_, h1.1.2⟩, q1.2, h3⟩
      have := h1.2
      omega
  obtain ⟨s1, s2, s3⟩ := splOk_iff.mp hs
  have hnk := cget_none s2
  have hj : judR j (.spl t ts) cs E = juds j.ws j.n (exs j.ws) t ts 0 cs (E ++ [none]) := by unfold judR; simp [hs]
  rw [hj]
  obtain ⟨J0, hJ0⟩ : ∃ J0, J0 = juds j.ws j.n (exs j.ws) t ts 0 cs (E ++ [none]) := ⟨_, rfl⟩
  rw [← hJ0]
  refine q_for (fun i r' m' => ∃ (o4 o5 : Option D) (th : Case) (came' : List Cm) (fl' : List Bool) (Ei : Es), r' = [some (.vol j.J), some (dp t), some (.tup (ts.map dTr)), some (dn E.length), o4, o5] ∧ Out j m m' ∧ JSt j m' th came' fl' ∧ came <+: came' ∧ fl.length ≤ fl'.length ∧ Rel came' fl' Ei ∧ EOk j.n j.ws.length Ei ∧ E ++ [none] <+: Ei ∧ Ei.length + szs (ts.drop i) ≤ E.length + 1 + szs ts ∧ J0 = juds j.ws j.n (exs j.ws) t (ts.drop i) i cs Ei ∧ (i = 0 ∧ th = cs ∨ ∃ v, i = v + 1 ∧ th = cs ++ [(t, v)])) (src_enumT (by walk_at "e")) ⟨none, none, cs, came, fl, E ++ [none], rfl, Out.refl _ _, s, List.prefix_refl _, Nat.le_refl _, hr, hE.snoc fun _ q => (by cases q), List.prefix_refl _, by rw [List.length_append]; exact Nat.le_refl _, hJ0, .inl ⟨rfl, rfl⟩⟩ (fun _ _ _ _ => trivial) (fun B i d r' m' hB hdd hjj => ?_) fun r' m' hjj => ?_
  · obtain ⟨o4, o5, th, came', fl', Ei, rfl, ho, s', hpc, hfl, hrel, hEi, hpre, hlen, hJ, hth⟩ := hjj
    obtain ⟨e1, he, rfl⟩ := enumD_get hdd
    rw [List.getElem?_map] at he
    obtain ⟨x, hx0, rfl⟩ := Option.map_eq_some_iff.mp he
    have hi : i < ts.length := (List.getElem?_eq_some_iff.mp hx0).1
    have hdrop : ts.drop i = x :: ts.drop (i + 1) := by
      rw [List.drop_eq_getElem_cons hi]
      rw [List.getElem?_eq_getElem hi] at hx0
      rw [Option.some.inj hx0]
    have hxm : x ∈ ts := List.mem_of_getElem? hx0
    have hxd := dep_mem hxm
    have hput : cput th t i = cs ++ [(t, i)] := by
      rcases hth with ⟨_, rfl⟩ | ⟨v, _, rfl⟩
      · exact cput_new s2
      · exact cput_last hnk
    have hthl : th.length ≤ 100 := by
      rcases hth with ⟨_, rfl⟩ | ⟨v, _, rfl⟩
      · omega
      · rw [List.length_append]; show cs.length + 1 ≤ _; omega
    rw [hdrop] at hlen hJ
    rw [szs_cons] at hlen
    refine ⟨_, _, gd_tup (gdl_cons gd_name (gdl_cons gd_name gdl_nil)), wp_seq (wp_dput (k := iT t) (i := (i : Int)) (by walk_at "e") (ev_there c s' rfl) (by walk_at "e") s'.ht (by rw [List.length_map]; omega) ?_)⟩
    have st := s'.putT (th' := cs ++ [(t, i)]) (c := .dic (dput (th.map cI) (iT t) (i : Int))) (by rw [dput_cI, hput])
    have ot : Out j m _ := ho.trans (Out.putT (c := .dic (dput (th.map cI) (iT t) (i : Int))))
    generalize hMt : pt m' j.ct (.dic (dput (th.map cI) (iT t) (i : Int))) = mt at *
    have cok : CaseOk j.n j.ws.length (cs ++ [(t, i)]) := by rw [← cput_new s2]; exact hc.put s2 s1 (by omega) (by omega)
    have hjo : JOk j.n j.ws.length Ei (judP j x (cs ++ [(t, i)]) Ei).2 (sz x) := jud_ok x cok (by rw [List.length_append]; show cs.length + 1 + _ ≤ _; omega) hEi
    unfold juds at hJ
    rw [cput_new s2] at hJ
    refine wp_ifs (Rb := fun b m3 => ∃ th' came3 fl3, Out j m m3 ∧ JSt j m3 th' came3 fl3 ∧ fl.length ≤ fl3.length ∧ b = !(judP j x (cs ++ [(t, i)]) Ei).1 ∧ (b = false → th' = cs ++ [(t, i)] ∧ came' <+: came3 ∧ Rel came3 fl3 (judP j x (cs ++ [(t, i)]) Ei).2)) (evt_not (evt_B (ev_methT (R0 := Is (.vol j.J) mt) (by walk_at "e") fun d m1 q => ?_))) (fun m3 q => ?_) fun m3 q => wp_next ?_
    · obtain ⟨rfl, rfl⟩ := q
      refine ⟨j.J, fsJ j, j.dx, AW.mk j x (cs ++ [(t, i)]) Ei came' fl' (some E.length) (some t), [dTr x, dn E.length, dp t], rfl, st.hj, rfl, by walk_at "e", rfl, ⟨by show dep x < k; omega, ⟨rfl, hw, hn, TsOk_iff.mp hx.2 _ hxm, cok, by rw [List.length_append]; show cs.length + 1 + dep x ≤ 100; omega, hEi, by show Ei.length + sz x ≤ _; omega⟩, st, hrel, .inr ⟨E.length, t, i, cs, rfl, rfl, rfl, cget_mem cok.nd (p := (t, i)) (by simp), ?_, hch.mono hpc⟩⟩, fun d m2 q => ?_⟩
      · have := hrel.l1
        have := hpre.length_le
        rw [List.length_append] at this
        have : E.length + 1 ≤ Ei.length := this
        show E.length < came'.length
        omega
      · obtain ⟨rfl, qo, th', came3, fl3, s3', hf3, hT⟩ := q
        refine ⟨_, rfl, th', came3, fl3, ot.trans qo, s3', Nat.le_trans hfl hf3, rfl, fun hb => hT (by simpa using hb)⟩
    · obtain ⟨th', came3, fl3, o3, s3', hf3, hb, _⟩ := q
      have hb : (judP j x (cs ++ [(t, i)]) Ei).1 = false := by simpa using hb
      have hJf : J0.1 = false := by
        rw [hJ, if_neg (by unfold judP at hb; rw [hb]; decide)]
      refine wp_ret (ev_mono ev_bl fun d m4 e4 => ?_)
      obtain ⟨rfl, rfl⟩ := e4
      show FinT _ _ _ _
      exact QW.ret ⟨by rw [hJf], o3, th', came3, fl3, s3', hf3, fun q => by rw [hJf] at q; cases q⟩
    · obtain ⟨th', came3, fl3, o3, s3', hf3, hb, hT⟩ := q
      have hb : (judP j x (cs ++ [(t, i)]) Ei).1 = true := by simpa using hb
      obtain ⟨rfl, hp3, hr3⟩ := hT rfl
      refine ⟨_, _, _, came3, fl3, (judP j x (cs ++ [(t, i)]) Ei).2, rfl, o3, s3', hpc.trans hp3, hf3, hr3, hjo.ok, hpre.trans hjo.pre, by have := hjo.len; omega, ?_, .inr ⟨i, rfl, rfl⟩⟩
      rw [hJ, if_pos (by unfold judP at hb; exact hb)]
      rfl
  · obtain ⟨o4, o5, th, came', fl', Ei, rfl, ho, s', hpc, hfl, hrel, hEi, hpre, hlen, hJ, hth⟩ := hjj
    rw [enumD_len, List.length_map] at hJ hth
    rw [List.drop_length] at hJ
    unfold juds at hJ
    obtain ⟨v, hv, rfl⟩ : ∃ v, ts.length = v + 1 ∧ th = cs ++ [(t, v)] := by
      rcases hth with ⟨h, _⟩ | h
      · omega
      · exact h
    refine q_drop (ev_dpopT (k := iT t) (i := (v : Int)) (ev_there c s' rfl) (by walk_at "e") s'.ht ?_) fun d m2 q => ?_
    · have nd : ((cs ++ [(t, v)]).map (·.1)).Nodup := by
        rw [List.map_append, List.nodup_append]
        exact ⟨hc.nd, by simp, fun a ha b hb e => by
          obtain rfl := List.mem_singleton.mp hb
          subst e
          exact hnk ha⟩
      rw [dget_cI, cget_mem nd (p := (t, v)) (by simp)]; rfl
    obtain ⟨rfl, rfl⟩ := q
    have st := s'.putT (th' := cs) (c := .dic (ddrop ((cs ++ [(t, v)]).map cI) (iT t))) (by rw [ddrop_cI, cdrop_last hnk])
    refine wp_ret (ev_mono ev_bl fun d m4 e4 => ?_)
    obtain ⟨rfl, rfl⟩ := e4
    show FinT _ _ _ _
    rw [hJ]
    exact QW.ret ⟨rfl, ho.trans Out.putT, cs, came', fl', st, hfl, fun _ => ⟨rfl, hpc, hrel⟩⟩
theorem b_row {K : PySem.W.Frag} {C : Addr} {k : Nat} {j : JA} {x : Tr} {cs : Case} {E : Es} {came : List Cm} {fl : List Bool} {m : Mu} (c : JC K C) (hk : dep x < k) (p : PW0 C j x cs E) (s : JSt j m cs came fl) (hr : Rel came fl (E ++ [none])) (hch : Chain came (some E.length) cs) {A : List Anc} :
    Wp A (start0 5 [.vol j.J, dTr x, dn E.length]) m (t_row_holds K C (spLikeH C) (spSplit C k) (spGrpH C)) (PFT (QW j cs came fl (judR j x cs E) m) m) := by
  have p' := p
  obtain ⟨rfl, hw, hn, hx, hc, hd, hE, hl⟩ := p
  unfold t_row_holds
  cases x with
  | grp cc g =>
    have hx : g.length ≤ 8 := by unfold TOk at hx; exact hx
    refine q_star (d := .str "group") (ds := [dn cc, dT g]) (by walk_at "e") (by simp) ?_
    refine q_if (b := true) (evt_to (evt_and1 (evt_test1 (ev_eqS (by walk_at "e") (by walk_at "e") rfl)) fun _ => evt_test1 (ev_eqI (ev_lenL (by walk_at "e")) (by walk_at "e"))) rfl) (fun _ => ?_) fun q => by cases q
    refine wp_ret (ev_methT (R0 := Is (.vol j.J) m) (by walk_at "e") fun d m1 q => ?_)
    obtain ⟨rfl, rfl⟩ := q
    refine ⟨j.J, fsJ j, j.dx, AJG.mk j cs came fl cc g, [dn cc, dT g], rfl, s.hj, rfl, eva_cons1 (ev_ixL (i := 0) (by walk_at "e") ev_int (atI_n (n := 0) rfl)) (eva_cons1 (ev_ixL (i := 1) (by walk_at "e") ev_int (atI_n (n := 1) rfl)) eva_nil), rfl, ⟨rfl, s, hw, by show g.length ≤ 1000; omega⟩, fun d m2 q => ?_⟩
    obtain ⟨rfl, rfl⟩ := q
    show FinT _ _ _ _
    exact QW.ret ⟨rfl, Out.refl _ _, cs, came, fl, s, Nat.le_refl _, fun _ => ⟨rfl, List.prefix_refl _, hr⟩⟩
  | lik k2 ps sw =>
    have hx : ps.length ≤ 8 ∧ sw.length ≤ 8 := by unfold TOk at hx; exact hx
    refine q_star (d := .str "like") (ds := [dn k2, dT ps, dT sw]) (by walk_at "e") (by simp) ?_
    refine q_if (b := false) (evt_to (evt_and1 (b := false) (evt_test1 (ev_eqS (by walk_at "e") (by walk_at "e") rfl)) fun q => by cases q) rfl) (fun q => by cases q) fun _ => ?_
    refine q_if (b := false) (evt_to (evt_and1 (b := false) (evt_test1 (ev_eqS (by walk_at "e") (by walk_at "e") rfl)) fun q => by cases q) rfl) (fun q => by cases q) fun _ => ?_
    refine wp_ret (ev_mono (ev_andV1 (a := true) (ev_to (ev_eqS (by walk_at "e") (by walk_at "e") rfl) rfl) fun _ => ev_andV1 (a := true) (ev_to (ev_eqI (ev_lenL (by walk_at "e")) (by walk_at "e")) rfl) fun _ => ev_methT (R := Is (.bl (likB j.n (exN j.ws j.ws.length) cs (E ++ [none]) k2 ps sw)) m) (R0 := Is (.vol j.J) m) (by walk_at "e") fun d m1 q => ?_) fun d m2 q => ?_)
    · obtain ⟨rfl, rfl⟩ := q
      exact ⟨j.J, fsJ j, j.dx, AJL.mk j cs came fl (E ++ [none]) k2 ps sw, [dn k2, dT ps, dT sw], rfl, s.hj, rfl, eva_cons1 (ev_ixL (i := 0) (by walk_at "e") ev_int (atI_n (n := 0) rfl)) (eva_cons1 (ev_ixL (i := 1) (by walk_at "e") ev_int (atI_n (n := 1) rfl)) (eva_cons1 (ev_ixL (i := 2) (by walk_at "e") ev_int (atI_n (n := 2) rfl)) eva_nil)), rfl, ⟨rfl, s, hr, hw, hE.snoc fun _ q => (by cases q), hx.1, hx.2⟩, fun d m2 q => q⟩
    · obtain ⟨rfl, rfl⟩ := q
      show FinT _ _ _ _
      refine QW.ret ⟨?_, Out.refl _ _, cs, came, fl, s, Nat.le_refl _, fun _ => ⟨rfl, List.prefix_refl _, hr⟩⟩
      rw [likB_none]; rfl
  | spl t ts =>
    have hk : deps ts + 1 < k := by unfold dep at hk; exact hk
    have e : dTr (.spl t ts) = .tup [.str "split", dp t, .tup (ts.map dTr)] := by rw [← dTrs_map]; rfl
    rw [e]
    refine q_star (d := .str "split") (ds := [dp t, .tup (ts.map dTr)]) (by walk_at "e") (by simp) ?_
    refine q_if (b := false) (evt_to (evt_and1 (b := false) (evt_test1 (ev_eqS (by walk_at "e") (by walk_at "e") rfl)) fun q => by cases q) rfl) (fun q => by cases q) fun _ => ?_
    refine q_if (b := true) (evt_to (evt_and1 (evt_test1 (ev_eqS (by walk_at "e") (by walk_at "e") rfl)) fun _ => evt_test1 (ev_eqI (ev_lenL (by walk_at "e")) (by walk_at "e"))) rfl) (fun _ => ?_) fun q => by cases q
    refine wp_ret (ev_methT (R0 := Is (.vol j.J) m) (by walk_at "e") fun d m1 q => ?_)
    obtain ⟨rfl, rfl⟩ := q
    refine ⟨j.J, fsJ j, j.dx, AS.mk j t ts cs E came fl, [dp t, .tup (ts.map dTr), dn E.length], rfl, s.hj, rfl, eva_cons1 (ev_ixL (i := 0) (by walk_at "e") ev_int (atI_n (n := 0) rfl)) (eva_cons1 (ev_ixL (i := 1) (by walk_at "e") ev_int (atI_n (n := 1) rfl)) (by walk_at "e")), rfl, ⟨hk, p', s, hr, hch⟩, fun d m2 q => ?_⟩
    show FinT _ _ _ _
    exact QW.ret q
end Hue
namespace Hue
open PySem PySem.Spec PyProof.Rows L2 DL
/-- the evaluation of an expression that reckons alone -/
local macro_rules | `(tactic| walk_at "e") => `(tactic| first
  | (with_reducible apply ev_var); rfl
  | (with_reducible exact ev_int)
  | ((with_reducible refine ev_to ev_int ?_); rfl)
  | (with_reducible exact ev_bl)
  | (with_reducible exact ev_str)
  | (with_reducible exact ev_non)
  | (with_reducible exact eva_nil)
  | (with_reducible apply eva_cons1) <;> walk_at "e"
  | (with_reducible apply ev_tup1) <;> walk_at "e"
  | (with_reducible apply ev_add) <;> walk_at "e"
  | (with_reducible apply ev_sub) <;> walk_at "e"
  | (with_reducible apply ev_ixT) <;> walk_at "e"
  | (with_reducible apply ev_ixL) <;> (walk_at "e"; done)
  | (with_reducible apply ev_ixV) <;> walk_at "e"
  | (with_reducible apply ev_lt) <;> walk_at "e"
  | (with_reducible apply ev_le) <;> walk_at "e"
  | (with_reducible apply ev_gt) <;> walk_at "e"
  | (with_reducible apply ev_ge) <;> walk_at "e"
  | (with_reducible apply ev_eqI) <;> (walk_at "e"; done)
  | (with_reducible apply ev_neI) <;> (walk_at "e"; done)
  | (with_reducible apply ev_isN) <;> walk_at "e"
  | (with_reducible apply ev_notN) <;> walk_at "e"
  | (with_reducible apply ev_neg) <;> walk_at "e"
  | (with_reducible apply ev_min2) <;> walk_at "e"
  | (with_reducible apply ev_max2) <;> walk_at "e"
  | (with_reducible apply ev_lenT) <;> (walk_at "e"; done)
  | (with_reducible apply ev_lenL) <;> (walk_at "e"; done)
  | (with_reducible apply ev_lenV) <;> walk_at "e"
  | (with_reducible apply ev_lenD) <;> walk_at "e"
  | (with_reducible apply ev_lst1) <;> walk_at "e"
  | (with_reducible assumption)
  | (with_reducible rfl)
  | rfl
  | exact Nat.le_of_ble_eq_true rfl)
local macro_rules | `(tactic| walk_at "t") => `(tactic| first
  | (with_reducible apply evt_test1) <;> walk_at "e"
  | (with_reducible apply evt_B1) <;> walk_at "e"
  | (with_reducible apply evt_not1) <;> walk_at "t")
/-- the same, brought to the wanted form -/
local macro_rules | `(tactic| walk_at "c") => `(tactic| (refine ev_to (by walk_at "e") ?_; first | rfl | (simp only [D.int.injEq]; omega)))
/-! the judge is made -/
structure AInit where
  (J C dx : Addr) (ws : List Web) (n : Nat)
structure QInit (J C dx : Addr) (ws : List Web) (n : Nat) (m : Mu) (d : D) (m' : Mu) : Prop where
  qd : d = .non
  qs : ∃ ct cb fl, JSt ⟨J, ct, cb, fl, C, dx, ws, n⟩ m' [] [] [] ∧ ¬ dm m ct ∧ ¬ dm m cb ∧ ¬ dm m fl ∧ ∀ a, a ≠ J → a ≠ ct → a ≠ cb → a ≠ fl → m' a = m a
abbrev spInit (C : Addr) : Sp := spT (α := AInit) (fun a => [.vol a.J, dDm a.ws, dn a.n]) (fun a m => a.C = C ∧ m a.J = some (.ins C a.dx []) ∧ DemOk a.ws) fun a m d m' => QInit a.J a.C a.dx a.ws a.n m d m'
theorem b_init {K : PySem.W.Frag} {C J dx : Addr} {ws : List Web} {n : Nat} {m : Mu} (c : JC K C) (hJ : m J = some (.ins C dx [])) (hw : DemOk ws) {A : List Anc} :
    Wp A (start0 3 [.vol J, dDm ws, dn n]) m (t___init__ K C spEx) (PFT (QInit J C dx ws n m) m) := by
  unfold t___init__
  have dJ := dm_of hJ
  refine wp_seq (wp_fld (dx := dx) (fs := []) (R1 := Is (dDm ws) m) (by walk_at "e") (fun d m1 q => ?_) c.cl c.a1)
  obtain ⟨rfl, rfl⟩ := q
  refine ⟨J, [], by walk_at "e", hJ, by decide, ?_⟩
  change Wp _ _ (pt m1 J (.ins C dx [("webs_judged", dDm ws)])) _ _
  refine wp_seq (wp_fld (dx := dx) (fs := []) (R1 := Is (dn n) (pt m1 J (.ins C dx [("webs_judged", dDm ws)]))) (by walk_at "e") (fun d m2 q => ?_) c.cl c.a2)
  obtain ⟨rfl, rfl⟩ := q
  refine ⟨J, _, by walk_at "e", pt_same, by simp, ?_⟩
  rw [pt_pt]
  change Wp _ _ (pt m1 J (.ins C dx [("webs_judged", dDm ws), ("points_judged", dn n)])) _ _
  refine wp_seq (wp_fld (dx := dx) (fs := []) (R1 := Is (.lst ((exN ws ws.length).map dT)) (pt m1 J (.ins C dx [("webs_judged", dDm ws), ("points_judged", dn n)]))) (ev_callP (ASwaps.mk ws) (by walk_at "e") hw) (fun d m2 q => ?_) c.cl c.a3)
  obtain ⟨rfl, rfl⟩ := q
  refine ⟨J, _, by walk_at "e", pt_same, by simp, ?_⟩
  rw [pt_pt]
  change Wp _ _ (pt m1 J (.ins C dx [("webs_judged", dDm ws), ("points_judged", dn n), ("swaps_let", .lst ((exN ws ws.length).map dT))])) _ _
  refine wp_seq (wp_fld (dx := dx) (fs := []) (R1 := NewV (.dic []) (pt m1 J (.ins C dx [("webs_judged", dDm ws), ("points_judged", dn n), ("swaps_let", .lst ((exN ws ws.length).map dT))]))) ev_dnewV (fun d m2 q => ?_) c.cl c.a4)
  obtain ⟨ct, rfl, hct, rfl⟩ := q
  have hct' : ¬ dm m1 ct := fun h => hct (dm_pt.mpr (.inr h))
  have nct : J ≠ ct := ne_dm dJ hct'
  refine ⟨J, _, by walk_at "e", by rw [pt_ne nct]; exact pt_same, by simp, ?_⟩
  rw [← pt_comm nct, pt_pt]
  change Wp _ _ (pt (pt m1 J (.ins C dx [("webs_judged", dDm ws), ("points_judged", dn n), ("swaps_let", .lst ((exN ws ws.length).map dT)), ("case_there", .vol ct)])) ct (.dic [])) _ _
  refine wp_seq (wp_fld (dx := dx) (fs := []) (R1 := NewV (.lst []) (pt (pt m1 J (.ins C dx [("webs_judged", dDm ws), ("points_judged", dn n), ("swaps_let", .lst ((exN ws ws.length).map dT)), ("case_there", .vol ct)])) ct (.dic []))) (ev_lstV eva_nil) (fun d m2 q => ?_) c.cl c.a5)
  obtain ⟨cb, rfl, hcb, rfl⟩ := q
  have hcb' : ¬ dm m1 cb := fun h => hcb (dm_pt.mpr (.inr (dm_pt.mpr (.inr h))))
  have ncb : J ≠ cb := ne_dm dJ hcb'
  have ntb : ct ≠ cb := fun e => hcb (dm_pt.mpr (.inl e.symm))
  refine ⟨J, _, by walk_at "e", by rw [pt_ne ncb, pt_ne nct]; exact pt_same, by simp, ?_⟩
  rw [← pt_comm ncb, ← pt_comm nct, pt_pt]
  change Wp _ _ (pt (pt (pt m1 J (.ins C dx [("webs_judged", dDm ws), ("points_judged", dn n), ("swaps_let", .lst ((exN ws ws.length).map dT)), ("case_there", .vol ct), ("came_by", .vol cb)])) ct (.dic [])) cb (.lst [])) _ _
  refine wp_fld (dx := dx) (fs := []) (R1 := NewV (.lst []) (pt (pt (pt m1 J (.ins C dx [("webs_judged", dDm ws), ("points_judged", dn n), ("swaps_let", .lst ((exN ws ws.length).map dT)), ("case_there", .vol ct), ("came_by", .vol cb)])) ct (.dic [])) cb (.lst []))) (ev_lstV eva_nil) (fun d m2 q => ?_) c.cl c.a6
  obtain ⟨fl, rfl, hfl, rfl⟩ := q
  have hfl' : ¬ dm m1 fl := fun h => hfl (dm_pt.mpr (.inr (dm_pt.mpr (.inr (dm_pt.mpr (.inr h))))))
  have nfl : J ≠ fl := ne_dm dJ hfl'
  have ntf : ct ≠ fl := fun e => hfl (dm_pt.mpr (.inr (dm_pt.mpr (.inl e.symm))))
  have nbf : cb ≠ fl := fun e => hfl (dm_pt.mpr (.inl e.symm))
  refine ⟨J, _, by walk_at "e", by rw [pt_ne nfl, pt_ne ncb, pt_ne nct]; exact pt_same, by simp, ?_⟩
  rw [← pt_comm nfl, ← pt_comm ncb, ← pt_comm nct, pt_pt]
  show FinT _ _ _ _
  refine fin_same (fun a ha => dm_pt.mpr (.inr (dm_pt.mpr (.inr (dm_pt.mpr (.inr (dm_pt.mpr (.inr ha)))))))) ⟨rfl, ct, cb, fl, ⟨?_, ?_, ?_, ?_, nbf⟩, hct', hcb', hfl', fun a h1 h2 h3 h4 => ?_⟩
  · show pt (pt (pt (pt m1 J _) ct _) cb _) fl _ J = _
    rw [pt_ne nfl, pt_ne ncb, pt_ne nct, pt_same]; rfl
  · show pt (pt (pt (pt m1 J _) ct _) cb _) fl _ ct = _
    rw [pt_ne ntf, pt_ne ntb, pt_same]; rfl
  · show pt (pt (pt (pt m1 J _) ct _) cb _) fl _ cb = _
    rw [pt_ne nbf, pt_same]; rfl
  · show pt (pt (pt (pt m1 J _) ct _) cb _) fl _ fl = _
    rw [pt_same]; rfl
  · rw [pt_ne h4, pt_ne h3, pt_ne h2, pt_ne h1]
structure ATree where
  (ws : List Web) (n : Nat) (x : Tr)
structure PTree (ws : List Web) (n : Nat) (x : Tr) : Prop where
  hw : DemOk ws
  hn : n ≤ 8
  hx : TOk x
  hd : dep x ≤ 30
  hs : sz x ≤ 10000000
abbrev spTree : Sp := spT (α := ATree) (fun a => [dDm a.ws, dn a.n, dTr a.x]) (fun a _ => PTree a.ws a.n a.x) fun a m => Is (.bl (jud a.ws a.n (exs a.ws) a.x [] []).1) m
theorem b_tree {K : PySem.W.Frag} {C : Addr} {ws : List Web} {n : Nat} {x : Tr} {m : Mu} (c : JC K C) (h : PTree ws n x) {A : List Anc} :
    Wp A (start0 3 [dDm ws, dn n, dTr x]) m (t_tree_holds K C (spCase C 31) (spInit C)) (PFT (Is (.bl (jud ws n (exs ws) x [] []).1) m) m) := by
  obtain ⟨hw, hn, hx, hd, hs⟩ := h
  unfold t_tree_holds
  refine wp_ret (ev_methT (R0 := fun d m1 => ∃ j : JA, d = .vol j.J ∧ j.C = C ∧ j.ws = ws ∧ j.n = n ∧ JSt j m1 [] [] [] ∧ Inc m m1 ∧ ¬ dm m j.J ∧ ¬ dm m j.ct ∧ ¬ dm m j.cb ∧ ¬ dm m j.fl) (ev_makeT (by walk_at "e") fun J dx hJ => ?_) fun d m1 q => ?_)
  · refine ⟨AInit.mk J C dx ws n, rfl, ⟨rfl, pt_same, hw⟩, fun d m2 q => ?_⟩
    obtain ⟨rfl, ct, cb, fl, s, h1, h2, h3, h4⟩ := q
    have g1 : ¬ dm m ct := fun h => h1 (dm_pt.mpr (.inr h))
    have g2 : ¬ dm m cb := fun h => h2 (dm_pt.mpr (.inr h))
    have g3 : ¬ dm m fl := fun h => h3 (dm_pt.mpr (.inr h))
    refine ⟨rfl, ⟨J, ct, cb, fl, C, dx, ws, n⟩, rfl, rfl, rfl, rfl, s, fun a v hv => ?_, hJ, g1, g2, g3⟩
    have ha := dm_of hv
    have nJ := ne_dm ha hJ
    rw [h4 a nJ (ne_dm ha g1) (ne_dm ha g2) (ne_dm ha g3), pt_ne nJ]; exact hv
  · obtain ⟨j, rfl, rfl, rfl, rfl, s, hi, n1, n2, n3, n4⟩ := q
    refine ⟨j.J, fsJ j, j.dx, AW.mk j x [] [] [] [] none none, [dTr x, .non, .non], rfl, s.hj, rfl, by walk_at "e", rfl, ⟨by show dep x < 31; omega, ⟨rfl, hw, hn, hx, ⟨by simp, by simp, by simp, by simp⟩, by show 0 + dep x ≤ 100; omega, (fun _ h => by cases h), by show 0 + sz x ≤ _; omega⟩, s, ⟨rfl, rfl, fun i h => by simp at h, fun i h => by simp at h⟩, .inl ⟨rfl, rfl, rfl⟩⟩, fun d m2 q => ?_⟩
    obtain ⟨rfl, qo, _⟩ := q
    show FinT _ _ _ _
    refine fin1 (fun a v hv => ?_) rfl
    have ha := dm_of hv
    rw [qo a (ne_dm ha n2) (ne_dm ha n3) (ne_dm ha n4)]
    exact hi a v hv
theorem o_eqB {K : PySem.W.Frag} {m : Mu} {a b : Bool} : Op (rEqD K) m (.bl a) (.bl b) (Is (.bl (decide (a = b))) m) := fun z H x y v hx hy Q q => by
  rw [at_bl hx, at_bl hy]
  refine ⟨.bool a, .bool b, .bl a, .bl b, rfl, rfl, ?_⟩
  have e : PyData.eqv (.bool a) (.bool b) = decide (a = b) := by cases a <;> cases b <;> decide
  rw [e]
  exact q.here v mk_bl
structure AIs where
  (a b : Bool)
abbrev spIs : Sp := spT (α := AIs) (fun a => [.bl a.a, .bl a.b]) (fun _ _ => True) fun a m => Is (.bl (decide (a.a = a.b))) m
theorem b_is {K : PySem.W.Frag} {a b : Bool} {m : Mu} {A : List Anc} : Wp A (start0 2 [.bl a, .bl b]) m (t__law_is K) (PFT (Is (.bl (decide (a = b))) m) m) := by
  unfold t__law_is
  refine wp_ret (ev_mono (ev_andV1 (ev_isi (t := "bool") (u := "bool") (b := true) (d := .bl a) (by walk_at "e") rfl rfl) fun _ => ev_op1 (d1 := .bl a) (d2 := .bl b) (by walk_at "e") (by walk_at "e") o_eqB) fun d m3 q => ?_)
  obtain ⟨rfl, rfl⟩ := q
  show FinT _ _ _ _
  exact fin1 (.refl _) rfl
end Hue
namespace Hue
open PySem PySem.Spec PyProof.Rows L2 DL
/-- the evaluation of an expression that reckons alone -/
local macro_rules | `(tactic| walk_at "e") => `(tactic| first
  | (with_reducible apply ev_var); rfl
  | (with_reducible exact ev_int)
  | ((with_reducible refine ev_to ev_int ?_); rfl)
  | (with_reducible exact ev_bl)
  | (with_reducible exact ev_str)
  | (with_reducible exact ev_non)
  | (with_reducible exact eva_nil)
  | (with_reducible apply eva_cons1) <;> walk_at "e"
  | (with_reducible apply ev_tup1) <;> walk_at "e"
  | (with_reducible apply ev_add) <;> walk_at "e"
  | (with_reducible apply ev_sub) <;> walk_at "e"
  | (with_reducible apply ev_ixT) <;> walk_at "e"
  | (with_reducible apply ev_ixL) <;> (walk_at "e"; done)
  | (with_reducible apply ev_ixV) <;> walk_at "e"
  | (with_reducible apply ev_lt) <;> walk_at "e"
  | (with_reducible apply ev_le) <;> walk_at "e"
  | (with_reducible apply ev_gt) <;> walk_at "e"
  | (with_reducible apply ev_ge) <;> walk_at "e"
  | (with_reducible apply ev_eqI) <;> (walk_at "e"; done)
  | (with_reducible apply ev_neI) <;> (walk_at "e"; done)
  | (with_reducible apply ev_isN) <;> walk_at "e"
  | (with_reducible apply ev_notN) <;> walk_at "e"
  | (with_reducible apply ev_neg) <;> walk_at "e"
  | (with_reducible apply ev_min2) <;> walk_at "e"
  | (with_reducible apply ev_max2) <;> walk_at "e"
  | (with_reducible apply ev_lenT) <;> (walk_at "e"; done)
  | (with_reducible apply ev_lenL) <;> (walk_at "e"; done)
  | (with_reducible apply ev_lenV) <;> walk_at "e"
  | (with_reducible apply ev_lenD) <;> walk_at "e"
  | (with_reducible apply ev_lst1) <;> walk_at "e"
  | (with_reducible assumption)
  | (with_reducible rfl)
  | rfl
  | exact Nat.le_of_ble_eq_true rfl)
local macro_rules | `(tactic| walk_at "t") => `(tactic| first
  | (with_reducible apply evt_test1) <;> walk_at "e"
  | (with_reducible apply evt_B1) <;> walk_at "e"
  | (with_reducible apply evt_not1) <;> walk_at "t")
/-- the same, brought to the wanted form -/
local macro_rules | `(tactic| walk_at "c") => `(tactic| (refine ev_to (by walk_at "e") ?_; first | rfl | (simp only [D.int.injEq]; omega)))
/-! spots, put -/
mutual
def spots : Tr → List Tr
  | .grp c g => [.grp c g]
  | .lik k ps sw => [.lik k ps sw]
  | .spl t ts => .spl t ts :: spotss ts
def spotss : List Tr → List Tr
  | [] => []
  | t :: ts => spots t ++ spotss ts
end
mutual
theorem spots_len : ∀ x : Tr, (spots x).length = sz x
  | .grp _ _ => by unfold spots sz; rfl
  | .lik _ _ _ => by unfold spots sz; rfl
  | .spl t ts => by unfold spots sz; rw [List.length_cons, spotss_len ts]
theorem spotss_len : ∀ xs : List Tr, (spotss xs).length = szs xs
  | [] => by unfold spotss szs; rfl
  | x :: xs => by unfold spotss szs; rw [List.length_append, spots_len x, spotss_len xs]
end
theorem spotss_app : ∀ xs ys : List Tr, spotss (xs ++ ys) = spotss xs ++ spotss ys
  | [], ys => by rw [spotss]; rfl
  | x :: xs, ys => by rw [List.cons_append, spotss, spotss, spotss_app xs ys, List.append_assoc]
theorem szs_app : ∀ xs ys : List Tr, szs (xs ++ ys) = szs xs + szs ys
  | [], ys => by rw [szs]; simp
  | x :: xs, ys => by rw [List.cons_append, szs_cons, szs_cons, szs_app xs ys]; omega
theorem szs_one (x : Tr) : szs [x] = sz x := by rw [szs_cons, szs]; rfl
theorem szs_take (xs : List Tr) (i : Nat) : szs (xs.take i) ≤ szs xs := by
  conv => rhs; rw [← List.take_append_drop i xs]
  rw [szs_app]; omega
theorem deps_le {n : Nat} : ∀ {xs : List Tr}, (∀ x ∈ xs, dep x ≤ n) → deps xs ≤ n
  | [], _ => by rw [deps]; omega
  | x :: xs, h => by
    rw [deps]
    have := h x List.mem_cons_self
    have := deps_le fun y hy => h y (List.mem_cons_of_mem _ hy)
    omega
mutual
theorem spots_ok : ∀ x : Tr, TOk x → ∀ y ∈ spots x, TOk y ∧ dep y ≤ dep x ∧ sz y ≤ sz x
  | .grp c g, h, y, hy => by
    unfold spots at hy
    obtain rfl := List.mem_singleton.mp hy
    exact ⟨h, Nat.le_refl _, Nat.le_refl _⟩
  | .lik k ps sw, h, y, hy => by
    unfold spots at hy
    obtain rfl := List.mem_singleton.mp hy
    exact ⟨h, Nat.le_refl _, Nat.le_refl _⟩
  | .spl t ts, h, y, hy => by
    unfold spots at hy
    rcases List.mem_cons.mp hy with rfl | hy
    · exact ⟨h, Nat.le_refl _, Nat.le_refl _⟩
    · unfold TOk at h
      have := spotss_ok ts h.2 y hy
      rw [dep, sz]
      exact ⟨this.1, by omega, by omega⟩
theorem spotss_ok : ∀ xs : List Tr, TsOk xs → ∀ y ∈ spotss xs, TOk y ∧ dep y ≤ deps xs ∧ sz y ≤ szs xs
  | [], _, y, hy => by unfold spotss at hy; cases hy
  | x :: xs, h, y, hy => by
    unfold spotss at hy
    unfold TsOk at h
    rw [deps, szs]
    rcases List.mem_append.mp hy with hy | hy
    · have := spots_ok x h.1 y hy
      exact ⟨this.1, by omega, by omega⟩
    · have := spotss_ok xs h.2 y hy
      exact ⟨this.1, by omega, by omega⟩
end
structure ATr where
  (x : Tr)
abbrev spSpots (k : Nat) : Sp := spT (α := ATr) (fun a => [dTr a.x]) (fun a _ => dep a.x < k ∧ sz a.x ≤ 10000000) fun a m => Is (.lst ((spots a.x).map dTr)) m
theorem b_spots {K : PySem.W.Frag} {k : Nat} {x : Tr} {m : Mu} (h : dep x < k + 1 ∧ sz x ≤ 10000000) {A : List Anc} :
    Wp A (start0 3 [dTr x]) m (t__law_spots K (spSpots k)) (PFT (Is (.lst ((spots x).map dTr)) m) m) := by
  unfold t__law_spots
  refine q_asg1 (d := .lst [dTr x]) (ev_lst1 (eva_cons1 (ev_var rfl) eva_nil)) ?_
  refine q_cut (fun r' m' => ∃ o2 : Option D, r' = [some (dTr x), some (.lst ((spots x).map dTr)), o2] ∧ m' = m) ?_ fun r' m' q => ?_
  · cases x with
    | grp c g =>
      refine wp_ifs1 (b := false) (evt_t (ev_eqS (ev_ixE (i := 0) (ev_var rfl) rfl) ev_str rfl) rfl) (fun q => by cases q) fun _ => wp_next ⟨_, rfl, rfl⟩
    | lik k2 ps sw =>
      refine wp_ifs1 (b := false) (evt_t (ev_eqS (ev_ixE (i := 0) (ev_var rfl) rfl) ev_str rfl) rfl) (fun q => by cases q) fun _ => wp_next ⟨_, rfl, rfl⟩
    | spl t ts =>
      have hk : deps ts + 1 < k + 1 := by have := h.1; rw [dep] at this; exact this
      have hs : szs ts + 1 ≤ 10000000 := by have := h.2; rw [sz] at this; exact this
      refine wp_ifs1 (b := true) (evt_t (ev_eqS (ev_ixE (i := 0) (ev_var rfl) rfl) ev_str rfl) rfl) (fun _ => ?_) fun q => by cases q
      refine wp_forT ts dTr (fun i r' m' => ∃ o2 : Option D, r' = [some (dTr (.spl t ts)), some (.lst ((Tr.spl t ts :: spotss (ts.take i)).map dTr)), o2] ∧ m' = m) (src_tup1 (ev_to (ev_ixE (i := 2) (d := .tup (dTrs ts)) (ev_var rfl) rfl) (by rw [dTrs_map]))) ⟨_, by rw [List.take_zero, spotss]; rfl, rfl⟩ (fun _ _ _ _ => trivial) (fun B i y r' m' hB hy hj => ?_) fun r' m' hj => ?_
      · obtain ⟨o2, rfl, rfl⟩ := hj
        have hym : y ∈ ts := List.mem_of_getElem? hy
        have hyd := dep_mem hym
        have hys := sz_mem hym
        have hsum : szs (ts.take (i + 1)) = szs (ts.take i) + sz y := by
          rw [List.take_succ, hy, szs_app]
          show _ + szs [y] = _
          rw [szs_one]
        have := szs_take ts (i + 1)
        refine ⟨_, _, gd_name, wp_asg (ev_mono (ev_catL (es := (spots y).map dTr) (.inl rfl) (.inl rfl) (by walk_at "e") (ev_callP (ATr.mk y) (by walk_at "e") ⟨by show dep y < k; omega, by show sz y ≤ _; omega⟩) ?_) fun d m2 q => ?_)⟩
        · rw [List.length_map, List.length_map, List.length_cons, spotss_len, spots_len]; omega
        · obtain ⟨rfl, rfl⟩ := q
          refine ⟨some (dTr y), ?_, rfl⟩
          have e : spotss (ts.take (i + 1)) = spotss (ts.take i) ++ spots y := by
            rw [List.take_succ, hy, spotss_app]
            show _ ++ spotss [y] = _
            rw [spotss, spotss, List.append_nil]
          rw [e]
          simp
      · obtain ⟨o2, rfl, rfl⟩ := hj
        rw [List.take_length]
        exact ⟨_, by rw [spots], rfl⟩
  · obtain ⟨o2, rfl, rfl⟩ := q
    refine wp_ret (ev_mono (ev_var rfl) fun d m2 q => ?_)
    obtain ⟨rfl, rfl⟩ := q
    show FinT _ _ _ _
    exact fin1 (.refl _) rfl
structure APut where
  (x : Tr) (a : Nat) (y : Tr)
structure QPut (x y : Tr) (m : Mu) (d : D) (m' : Mu) : Prop where
  q : ∃ z, d = dTr z ∧ TOk z ∧ dep z ≤ dep x + dep y ∧ sz z ≤ sz x + sz y
  m : m' = m
abbrev spPut (k : Nat) : Sp := spT (α := APut) (fun a => [dTr a.x, dn a.a, dTr a.y]) (fun a _ => dep a.x < k ∧ a.a < sz a.x ∧ TOk a.x ∧ TOk a.y ∧ sz a.x ≤ 10000000) fun a m d m' => QPut a.x a.y m d m'
theorem b_put {K : PySem.W.Frag} {k k2 : Nat} {x : Tr} {a : Nat} {y : Tr} {m : Mu} (hk2 : dep x < k2) (h : dep x < k + 1 ∧ a < sz x ∧ TOk x ∧ TOk y ∧ sz x ≤ 10000000) {A : List Anc} :
    Wp A (start0 6 [dTr x, dn a, dTr y]) m (t__law_put K (spPut k) (spSpots k2)) (PFT (QPut x y m) m) := by
  obtain ⟨hk, ha, hx, hy, hs⟩ := h
  unfold t__law_put
  refine q_if (b := decide (a = 0)) (evt_t (ev_eqI (ev_var rfl) ev_int) (by rw [← dec_nat]; rfl)) (fun e => ?_) fun e => ?_
  · refine wp_ret (ev_mono (ev_var rfl) fun d m2 q => ?_)
    obtain ⟨rfl, rfl⟩ := q
    show FinT _ _ _ _
    exact fin_same (fun _ h => h) ⟨⟨y, rfl, hy, by omega, by omega⟩, rfl⟩
  have e : a ≠ 0 := of_decide_eq_false e
  cases x with
  | grp c g => rw [sz] at ha; omega
  | lik k ps sw => rw [sz] at ha; omega
  | spl t ts =>
    rw [sz] at ha hs
    rw [dep] at hk hk2
    have hx : (1 ≤ ts.length ∧ ts.length ≤ 8) ∧ TsOk ts := by unfold TOk at hx; exact hx
    refine q_asgV (ev_lstV eva_nil) fun l hl => ?_
    refine q_asg1 (d := .int ((a : Int) - 1)) (by walk_at "e") ?_
    refine q_forT ts dTr (fun i r' m' => ∃ (o4 o5 : Option D) (b : Int) (ys : List Tr), r' = [some (dTr (.spl t ts)), some (.int b), some (dTr y), some (.vol l), o4, o5] ∧ m' = pt m l (.lst (ys.map dTr)) ∧ ys.length = i ∧ (∀ z ∈ ys, TOk z ∧ dep z ≤ deps ts + dep y) ∧ (0 ≤ b ∧ szs ys ≤ szs (ts.take i) ∨ b < 0 ∧ szs ys ≤ szs (ts.take i) + sz y)) (src_tup1 (ev_to (ev_ixE (i := 2) (d := .tup (dTrs ts)) (ev_var rfl) rfl) (by rw [dTrs_map]))) ⟨none, none, _, [], rfl, rfl, rfl, by simp, .inl ⟨by omega, by rw [szs]; omega⟩⟩ (fun _ _ _ _ => trivial) (fun B i z r' m' hB hz hj => ?_) fun r' m' hj => ?_
    · obtain ⟨o4, o5, b, ys, rfl, rfl, hyl, hyo, hb⟩ := hj
      have hzm : z ∈ ts := List.mem_of_getElem? hz
      have hi : i < ts.length := (List.getElem?_eq_some_iff.mp hz).1
      have hzd := dep_mem hzm
      have hzs := sz_mem hzm
      have hzo := TsOk_iff.mp hx.2 z hzm
      have hsum : szs (ts.take (i + 1)) = szs (ts.take i) + sz z := by
        rw [List.take_succ, hz, szs_app]
        show _ + szs [z] = _
        rw [szs_one]
      refine ⟨_, _, gd_name, q_asg1 (d := dn (sz z)) (ev_to (ev_lenL (ev_callP (ATr.mk z) (by walk_at "e") ⟨by show dep z < k2; omega, by show sz z ≤ _; omega⟩)) (by rw [List.length_map, spots_len])) ?_⟩
      refine q_drop (R := fun d m2 => ∃ w, m2 = pt m l (.lst ((ys ++ [w]).map dTr)) ∧ TOk w ∧ dep w ≤ deps ts + dep y ∧ (0 ≤ b ∧ b < sz z ∧ sz w ≤ sz z + sz y ∨ (b < 0 ∨ (sz z : Int) ≤ b) ∧ sz w = sz z)) (ev_append (R1 := fun d m2 => m2 = pt m l (.lst (ys.map dTr)) ∧ ∃ w, d = dTr w ∧ TOk w ∧ dep w ≤ deps ts + dep y ∧ (0 ≤ b ∧ b < sz z ∧ sz w ≤ sz z + sz y ∨ (b < 0 ∨ (sz z : Int) ≤ b) ∧ sz w = sz z)) (by walk_at "e") pt_same (ev_ifR (b := decide (0 ≤ b) && decide (b < (sz z : Nat))) (evt_test1 (ev_chainB ev_int (by walk_at "e") o_le (by walk_at "e") o_lt)) (fun q => ?_) fun q => ?_) fun d m2 q => ?_) fun d m2 q => ?_
      · simp only [Bool.and_eq_true, decide_eq_true_eq] at q
        refine ev_callT1 (APut.mk z b.toNat y) (eva_cons1 (by walk_at "e") (eva_cons1 (ev_to (ev_var (d := .int b) rfl) ?_) (by walk_at "e"))) ⟨by show dep z < k; omega, by show b.toNat < sz z; omega, hzo, hy, by show sz z ≤ _; omega⟩ fun d m2 q2 => ?_
        · show D.int b = D.int ((b.toNat : Nat) : Int)
          rw [Int.toNat_of_nonneg q.1]
        · obtain ⟨⟨w, rfl, h1, h2, h3⟩, rfl⟩ := q2
          exact ⟨rfl, w, rfl, h1, by show dep w ≤ _; have : dep w ≤ dep z + dep y := h2; omega, .inl ⟨q.1, q.2, h3⟩⟩
      · refine ev_mono (ev_var rfl) fun d m2 q2 => ?_
        obtain ⟨rfl, rfl⟩ := q2
        refine ⟨rfl, z, rfl, hzo, by omega, .inr ⟨?_, rfl⟩⟩
        simp only [Bool.and_eq_false_iff, decide_eq_false_iff_not] at q
        omega
      · obtain ⟨rfl, w, rfl, h1, h2, h3⟩ := q
        exact ⟨_, pt_same, by rw [List.length_map]; omega, w, by rw [pt_pt]; simp, h1, h2, h3⟩
      · obtain ⟨w, rfl, h1, h2, h3⟩ := q
        refine wp_asg (ev_mono (ev_sub (ev_var rfl) (ev_var rfl)) fun d m3 q => ?_)
        obtain ⟨rfl, rfl⟩ := q
        refine ⟨_, _, b - (sz z : Nat), ys ++ [w], rfl, rfl, by rw [List.length_append, hyl]; rfl, fun v hv => ?_, ?_⟩
        · rcases List.mem_append.mp hv with hv | hv
          · exact hyo v hv
          · obtain rfl := List.mem_singleton.mp hv; exact ⟨h1, h2⟩
        · rw [szs_app, szs_one, hsum]
          rcases hb with ⟨hb1, hb2⟩ | ⟨hb1, hb2⟩ <;> rcases h3 with ⟨h3, h4, h5⟩ | ⟨h3, h4⟩ <;> first | (exfalso; omega) | (rcases h3 with h3 | h3 <;> first | (exfalso; omega) | (left; constructor <;> omega) | (right; constructor <;> omega)) | (left; constructor <;> omega) | (right; constructor <;> omega)
    · obtain ⟨o4, o5, b, ys, rfl, rfl, hyl, hyo, hb⟩ := hj
      rw [List.take_length] at hb
      refine wp_ret (ev_mono (ev_tup1 (eva_cons1 (by walk_at "e") (eva_cons1 (ev_ixE (i := 1) (d := dp t) (ev_var rfl) rfl) (eva_cons1 (ev_tupleV (by walk_at "e") pt_same) eva_nil)))) fun d m2 q => ?_)
      obtain ⟨rfl, rfl⟩ := q
      show FinT _ _ _ _
      refine ⟨m, .new hl, fun _ h => h, ⟨.spl t ys, by rw [← dTrs_map]; rfl, ?_, ?_, ?_⟩, rfl⟩
      · unfold TOk
        exact ⟨by omega, TsOk_iff.mpr fun z hz => (hyo z hz).1⟩
      · rw [dep, dep]
        have := deps_le fun z hz => (hyo z hz).2
        omega
      · rw [sz, sz]
        omega
end Hue
namespace Hue
open PySem PySem.Spec PyProof.Rows L2 DL
/-- the evaluation of an expression that reckons alone -/
local macro_rules | `(tactic| walk_at "e") => `(tactic| first
  | (with_reducible apply ev_var); rfl
  | (with_reducible exact ev_int)
  | ((with_reducible refine ev_to ev_int ?_); rfl)
  | (with_reducible exact ev_bl)
  | (with_reducible exact ev_str)
  | (with_reducible exact ev_non)
  | (with_reducible exact eva_nil)
  | (with_reducible apply eva_cons1) <;> walk_at "e"
  | (with_reducible apply ev_tup1) <;> walk_at "e"
  | (with_reducible apply ev_add) <;> walk_at "e"
  | (with_reducible apply ev_sub) <;> walk_at "e"
  | (with_reducible apply ev_ixT) <;> walk_at "e"
  | (with_reducible apply ev_ixL) <;> (walk_at "e"; done)
  | (with_reducible apply ev_ixV) <;> walk_at "e"
  | (with_reducible apply ev_lt) <;> walk_at "e"
  | (with_reducible apply ev_le) <;> walk_at "e"
  | (with_reducible apply ev_gt) <;> walk_at "e"
  | (with_reducible apply ev_ge) <;> walk_at "e"
  | (with_reducible apply ev_eqI) <;> (walk_at "e"; done)
  | (with_reducible apply ev_neI) <;> (walk_at "e"; done)
  | (with_reducible apply ev_isN) <;> walk_at "e"
  | (with_reducible apply ev_notN) <;> walk_at "e"
  | (with_reducible apply ev_neg) <;> walk_at "e"
  | (with_reducible apply ev_min2) <;> walk_at "e"
  | (with_reducible apply ev_max2) <;> walk_at "e"
  | (with_reducible apply ev_lenT) <;> (walk_at "e"; done)
  | (with_reducible apply ev_lenL) <;> (walk_at "e"; done)
  | (with_reducible apply ev_lenV) <;> walk_at "e"
  | (with_reducible apply ev_lenD) <;> walk_at "e"
  | (with_reducible apply ev_lst1) <;> walk_at "e"
  | (with_reducible assumption)
  | (with_reducible rfl)
  | rfl
  | exact Nat.le_of_ble_eq_true rfl)
local macro_rules | `(tactic| walk_at "t") => `(tactic| first
  | (with_reducible apply evt_test1) <;> walk_at "e"
  | (with_reducible apply evt_B1) <;> walk_at "e"
  | (with_reducible apply evt_not1) <;> walk_at "t")
/-- the same, brought to the wanted form -/
local macro_rules | `(tactic| walk_at "c") => `(tactic| (refine ev_to (by walk_at "e") ?_; first | rfl | (simp only [D.int.injEq]; omega)))
/-! leaves, other trees -/
theorem ev_slI {K : PySem.W.Frag} {r : Rho} {m : Mu} {te ti : TE} {R : RR} {R1 : List D → Mu → Prop} (h : Ev r m te fun d m1 => ∃ ds, d = .lst ds ∧ R1 ds m1) (h2 : ∀ ds m1, R1 ds m1 → Ev r m1 ti fun d m2 => ∃ k : Nat, d = dn k ∧ R (.lst (ds.take k)) m2) : Ev r m (tSl (rSlL K) te tNoPart (tPart ti)) R := fun z σ H e v Q q =>
  h z σ H e v _ fun x H1 d' m1 s a p => by
    obtain ⟨ds, rfl, hR⟩ := p
    refine h2 ds m1 hR z σ H1 (e.go s.ext) s.vol _ fun y H2 d2 m2 s2 a2 p2 => ?_
    obtain ⟨k, rfl, hR2⟩ := p2
    refine ⟨(k : Int), at_int a2, ?_⟩
    obtain ⟨p, xs, rfl, n, hp, hl⟩ := at_lst (At.go s2.ext _ _ a)
    refine ⟨p, xs, rfl, .of hp, fun p np => ?_⟩
    have hc := cut_at hl none (some (k : Int))
    rw [cutD_take] at hc
    exact (q.from (s.trans s2)).newF s2.vol np hc hR2
def isSpl : Tr → Bool
  | .spl _ _ => true
  | _ => false
theorem leaf_dep {x : Tr} (h : isSpl x = false) : dep x = 0 ∧ sz x = 1 := by
  cases x with
  | grp c g => exact ⟨by rw [dep], by rw [sz]⟩
  | lik k ps sw => exact ⟨by rw [dep], by rw [sz]⟩
  | spl t ts => cases h
structure ALeaf where
  (b : Addr) (n C : Nat) (L : List Tr)
structure PLeaf (b : Addr) (n C : Nat) (L : List Tr) (m : Mu) : Prop where
  hb : Bag m b
  hn : 1 ≤ n ∧ n ≤ 8
  hC : 1 ≤ C ∧ C ≤ 8
  hL : ∀ x ∈ L, TOk x
  hl : L.length ≤ 10000000
  he : ∃ x ∈ L, isSpl x = false
structure QLeaf (b : Addr) (m : Mu) (d : D) (m' : Mu) : Prop where
  q : ∃ y, d = dTr y ∧ TOk y ∧ dep y = 0 ∧ sz y = 1
  t : To b m m'
abbrev spLeaf : Sp := spT (α := ALeaf) (fun a => [.vol a.b, dn a.n, dn a.C, .lst (a.L.map dTr)]) (fun a m => PLeaf a.b a.n a.C a.L m) fun a m d m' => QLeaf a.b m d m'
theorem evt_isSpl {K : PySem.W.Frag} {r : Rho} {m : Mu} {i : Nat} {x : Tr} (h : r[i]? = some (some (dTr x))) : EvT1 r m (tTest (tOp rNe (tOp (rIxT K) (tVar i) (tC (.int 0))) (tC (.str "split")))) (!isSpl x) := by
  cases x with
  | grp c g => exact evt_t (ev_neS (ev_ixE (i := 0) (ds := [.str "group", dn c, dT g]) (ev_var h) rfl) ev_str rfl) rfl
  | lik k ps sw => exact evt_t (ev_neS (ev_ixE (i := 0) (ds := [.str "like", dn k, dT ps, dT sw]) (ev_var h) rfl) ev_str rfl) rfl
  | spl t ts => exact evt_t (ev_neS (ev_ixE (i := 0) (ds := [.str "split", dp t, .tup (dTrs ts)]) (ev_var h) rfl) ev_str rfl) rfl
theorem b_leaf {K : PySem.W.Frag} {b : Addr} {n C : Nat} {L : List Tr} {m : Mu} (h : PLeaf b n C L m) {A : List Anc} :
    Wp A (start0 7 [.vol b, dn n, dn C, .lst (L.map dTr)]) m (t__law_leaf K spTurned spDraw) (PFT (QLeaf b m) m) := by
  obtain ⟨hb, hn, hC, hL, hl, x0, hx0, hs0⟩ := h
  unfold t__law_leaf
  refine q_asg1 (d := .lst ((L.filter fun x => !isSpl x).map dTr)) (ev_lcT L dTr dTr (fun x => !isSpl x) (src_list1 (by walk_at "e")) trivial (fun x hx => ⟨_, [6], by simp, gd_name, evt_isSpl (x := x) rfl, fun _ => by walk_at "e"⟩) (by omega)) ?_
  have hF : 0 < (L.filter fun x => !isSpl x).length := List.length_pos_iff.mpr (List.ne_nil_of_mem (List.mem_filter.mpr ⟨hx0, by rw [hs0]; rfl⟩))
  have hFl : (L.filter fun x => !isSpl x).length ≤ 10000000 := Nat.le_trans (List.length_filter_le _ _) hl
  refine wp_seq (wp_ifs (evt_drawGt (n := 3) (eva_cons1 (by walk_at "e") (eva_cons1 (by walk_at "e") eva_nil)) hb (by omega) (by omega)) (fun m1 q => ?_) fun m1 q => wp_next ?_)
  · obtain ⟨_, _, _, h1⟩ := q
    refine wp_ret (ev_op (R1 := Is (.lst ((L.filter fun x => !isSpl x).map dTr)) m1) (R2 := fun _ d m2 => ∃ k, d = dn k ∧ k < (L.filter fun x => !isSpl x).length ∧ To b m m2) (by walk_at "e") (fun d1 m2 q => ?_) fun d1 m2 d2 m3 q1 q2 => ?_)
    · obtain ⟨rfl, rfl⟩ := q
      exact ev_draw (n := (L.filter fun x => !isSpl x).length) (eva_cons1 (by walk_at "e") (eva_cons1 (ev_to (ev_lenL (by walk_at "e")) (by rw [List.length_map])) eva_nil)) h1.1 hF (by omega) fun k m3 hk h3 => ⟨k, rfl, hk, h1.trans h3⟩
    · obtain ⟨rfl, rfl⟩ := q1
      obtain ⟨k, rfl, hk, ht⟩ := q2
      refine op_mono (o_ixL (atI_n (v := dTr (L.filter fun x => !isSpl x)[k]) (by rw [List.getElem?_map, List.getElem?_eq_getElem hk]; rfl))) fun d m5 e => ?_
      obtain ⟨rfl, rfl⟩ := e
      have hm := List.mem_filter.mp (List.getElem_mem (l := L.filter fun x => !isSpl x) hk)
      have hz := leaf_dep (x := (L.filter fun x => !isSpl x)[k]) (by simpa using hm.2)
      show FinT _ _ _ _
      exact fin_to ht.x fun m' h => ⟨⟨_, rfl, hL _ hm.1, hz.1, hz.2⟩, h⟩
  obtain ⟨_, _, _, h1⟩ := q
  refine wp_seq (wp_ifs (evt_drawEq (n := 2) (eva_cons1 (by walk_at "e") (eva_cons1 (by walk_at "e") eva_nil)) h1.1 (by omega) (by omega)) (fun m2 q => ?_) fun m2 q => wp_next ?_)
  · obtain ⟨_, _, _, h2⟩ := q
    have h2 := h1.trans h2
    refine q_asg (R := fun d m3 => ∃ g : List Nat, d = dL g ∧ g.length ≤ 8 ∧ To b m m3) (ev_slI (R1 := fun ds m3 => ∃ M, ds = M.map dn ∧ M.length ≤ 8 ∧ To b m m3) (ev_turned (n := n) (eva_cons1 (by walk_at "e") (eva_cons1 (by walk_at "e") eva_nil)) h2.1 (by omega) fun M m3 hM _ h3 => ⟨_, rfl, M, rfl, by rw [hM.len]; exact hn.2, h2.trans h3⟩) fun ds m3 q => ?_) fun d m3 q => ?_
    · obtain ⟨M, rfl, hM, h3⟩ := q
      refine ev_op (R1 := Is (.int 2) m3) (R2 := fun _ d m4 => ∃ k, d = dn k ∧ To b m m4) ev_int (fun d1 m4 q => ?_) fun d1 m4 d2 m5 q1 q2 => ?_
      · obtain ⟨rfl, rfl⟩ := q
        exact ev_draw (n := 4) (eva_cons1 (by walk_at "e") (eva_cons1 (by walk_at "e") eva_nil)) h3.1 (by omega) (by omega) fun k m5 hk h5 => ⟨k, rfl, h3.trans h5⟩
      · obtain ⟨rfl, rfl⟩ := q1
        obtain ⟨k, rfl, ht⟩ := q2
        refine op_mono (o_add (i := 2) (j := (k : Int))) fun d m6 e => ?_
        obtain ⟨rfl, rfl⟩ := e
        refine ⟨2 + k, rfl, M.take (2 + k), by rw [← List.map_take], ?_, ht⟩
        rw [List.length_take]; omega
    · obtain ⟨g, rfl, hg, h3⟩ := q
      refine wp_ret (ev_tup (R1 := fun ds m4 => ∃ c, ds = [.str "group", dn c, dT g] ∧ To b m m4) (eva_cons (R1 := Is (.str "group") m3) ev_str fun d m4 q => ?_) fun ds m4 q => ?_)
      · obtain ⟨rfl, rfl⟩ := q
        refine eva_cons (R1 := fun d m5 => ∃ c, d = dn c ∧ To b m m5) (ev_draw (n := C) (eva_cons1 (by walk_at "e") (eva_cons1 (by walk_at "e") eva_nil)) h3.1 (by omega) (by omega) fun k m5 hk h5 => ⟨k, rfl, h3.trans h5⟩) fun d m5 q => ?_
        obtain ⟨cc, rfl, h5⟩ := q
        exact eva_mono (R := IsL [dT g] m5) (eva_cons1 (ev_tupleL (by walk_at "e")) eva_nil) fun ds m6 e => by obtain ⟨rfl, rfl⟩ := e; exact ⟨cc, rfl, h5⟩
      · obtain ⟨cc, rfl, h5⟩ := q
        refine ⟨by show 3 ≤ sizeLine; decide, ?_⟩
        show FinT _ _ _ _
        exact fin_to h5.x fun m' h => ⟨⟨.grp cc g, rfl, by unfold TOk; exact hg, by rw [dep], by rw [sz]⟩, h⟩
  obtain ⟨_, _, _, h2⟩ := q
  have h2 := h1.trans h2
  refine wp_ret (ev_tup (R1 := fun ds m4 => ∃ k ps sw, ds = [.str "like", dn k, dT ps, dT sw] ∧ ps.length ≤ 8 ∧ sw.length ≤ 8 ∧ To b m m4) (eva_cons (R1 := Is (.str "like") m2) ev_str fun d m4 q => ?_) fun ds m4 q => ?_)
  · obtain ⟨rfl, rfl⟩ := q
    refine eva_cons (R1 := fun d m5 => ∃ c, d = dn c ∧ To b m m5) (ev_draw (n := L.length) (eva_cons1 (by walk_at "e") (eva_cons1 (ev_to (ev_lenL (by walk_at "e")) (by rw [List.length_map])) eva_nil)) h2.1 (List.length_pos_iff.mpr (List.ne_nil_of_mem hx0)) (by omega) fun k m5 hk h5 => ⟨k, rfl, h2.trans h5⟩) fun d m5 q => ?_
    obtain ⟨k, rfl, h5⟩ := q
    refine eva_cons (R1 := fun d m6 => ∃ M, d = dT M ∧ M.length ≤ 8 ∧ To b m m6) (ev_tupleR (R1 := fun d m6 => ∃ M, d = dL M ∧ M.length ≤ 8 ∧ To b m m6) (ev_turned (n := n) (eva_cons1 (by walk_at "e") (eva_cons1 (by walk_at "e") eva_nil)) h5.1 (by omega) fun M m3 hM _ h3 => ⟨M, rfl, by rw [hM.len]; exact hn.2, h5.trans h3⟩) fun d m6 q => by obtain ⟨M, rfl, hM, h6⟩ := q; exact ⟨_, .inl rfl, M, rfl, hM, h6⟩) fun d m6 q => ?_
    obtain ⟨ps, rfl, hps, h6⟩ := q
    refine eva_cons (R1 := fun d m7 => ∃ M, d = dT M ∧ M.length ≤ 8 ∧ To b m m7) (ev_tupleR (R1 := fun d m6 => ∃ M, d = dL M ∧ M.length ≤ 8 ∧ To b m m6) (ev_turned (n := C) (eva_cons1 (by walk_at "e") (eva_cons1 (by walk_at "e") eva_nil)) h6.1 (by omega) fun M m3 hM _ h3 => ⟨M, rfl, by rw [hM.len]; exact hC.2, h6.trans h3⟩) fun d m6 q => by obtain ⟨M, rfl, hM, h6⟩ := q; exact ⟨_, .inl rfl, M, rfl, hM, h6⟩) fun d m7 q => ?_
    obtain ⟨sw, rfl, hsw, h7⟩ := q
    exact eva_mono eva_nil fun ds m8 e => by obtain ⟨rfl, rfl⟩ := e; exact ⟨k, ps, sw, rfl, hps, hsw, h7⟩
  · obtain ⟨k, ps, sw, rfl, hps, hsw, h7⟩ := q
    refine ⟨by show 4 ≤ sizeLine; decide, ?_⟩
    show FinT _ _ _ _
    exact fin_to h7.x fun m' h => ⟨⟨.lik k ps sw, rfl, by unfold TOk; exact ⟨hps, hsw⟩, by rw [dep], by rw [sz]⟩, h⟩
end Hue
namespace Hue
open PySem PySem.Spec PyProof.Rows L2 DL
/-- the evaluation of an expression that reckons alone -/
local macro_rules | `(tactic| walk_at "e") => `(tactic| first
  | (with_reducible apply ev_var); rfl
  | (with_reducible exact ev_int)
  | ((with_reducible refine ev_to ev_int ?_); rfl)
  | (with_reducible exact ev_bl)
  | (with_reducible exact ev_str)
  | (with_reducible exact ev_non)
  | (with_reducible exact eva_nil)
  | (with_reducible apply eva_cons1) <;> walk_at "e"
  | (with_reducible apply ev_tup1) <;> walk_at "e"
  | (with_reducible apply ev_add) <;> walk_at "e"
  | (with_reducible apply ev_sub) <;> walk_at "e"
  | (with_reducible apply ev_ixT) <;> walk_at "e"
  | (with_reducible apply ev_ixL) <;> (walk_at "e"; done)
  | (with_reducible apply ev_ixV) <;> walk_at "e"
  | (with_reducible apply ev_lt) <;> walk_at "e"
  | (with_reducible apply ev_le) <;> walk_at "e"
  | (with_reducible apply ev_gt) <;> walk_at "e"
  | (with_reducible apply ev_ge) <;> walk_at "e"
  | (with_reducible apply ev_eqI) <;> (walk_at "e"; done)
  | (with_reducible apply ev_neI) <;> (walk_at "e"; done)
  | (with_reducible apply ev_isN) <;> walk_at "e"
  | (with_reducible apply ev_notN) <;> walk_at "e"
  | (with_reducible apply ev_neg) <;> walk_at "e"
  | (with_reducible apply ev_min2) <;> walk_at "e"
  | (with_reducible apply ev_max2) <;> walk_at "e"
  | (with_reducible apply ev_lenT) <;> (walk_at "e"; done)
  | (with_reducible apply ev_lenL) <;> (walk_at "e"; done)
  | (with_reducible apply ev_lenV) <;> walk_at "e"
  | (with_reducible apply ev_lenD) <;> walk_at "e"
  | (with_reducible apply ev_lst1) <;> walk_at "e"
  | (with_reducible assumption)
  | (with_reducible rfl)
  | rfl
  | exact Nat.le_of_ble_eq_true rfl)
local macro_rules | `(tactic| walk_at "t") => `(tactic| first
  | (with_reducible apply evt_test1) <;> walk_at "e"
  | (with_reducible apply evt_B1) <;> walk_at "e"
  | (with_reducible apply evt_not1) <;> walk_at "t")
/-- the same, brought to the wanted form -/
local macro_rules | `(tactic| walk_at "c") => `(tactic| (refine ev_to (by walk_at "e") ?_; first | rfl | (simp only [D.int.injEq]; omega)))
structure AOT where
  (b : Addr) (x : Tr) (n C : Nat)
structure POT (b : Addr) (x : Tr) (n C : Nat) (m : Mu) : Prop where
  hb : Bag m b
  hx : TOk x
  hn : 1 ≤ n ∧ n ≤ 8
  hC : 1 ≤ C ∧ C ≤ 8
  hs : sz x ≤ 4000000
structure QOT (b : Addr) (x : Tr) (m : Mu) (d : D) (m' : Mu) : Prop where
  q : ∃ z, d = dTr z ∧ TOk z ∧ dep z ≤ 2 * dep x + 1 ∧ sz z ≤ 2 * sz x + 9
  t : To b m m'
abbrev spOT (k : Nat) : Sp := spT (α := AOT) (fun a => [.vol a.b, dTr a.x, dn a.n, dn a.C]) (fun a m => dep a.x < k ∧ POT a.b a.x a.n a.C m) fun a m d m' => QOT a.b a.x m d m'
mutual
theorem spots_leaf : ∀ x : Tr, TOk x → ∃ y ∈ spots x, isSpl y = false
  | .grp c g, _ => ⟨.grp c g, by unfold spots; simp, rfl⟩
  | .lik k ps sw, _ => ⟨.lik k ps sw, by unfold spots; simp, rfl⟩
  | .spl t ts, h => by
    unfold TOk at h
    obtain ⟨y, hy, h2⟩ := spotss_leaf ts h.2 h.1.1
    exact ⟨y, by unfold spots; exact List.mem_cons_of_mem _ hy, h2⟩
theorem spotss_leaf : ∀ xs : List Tr, TsOk xs → 1 ≤ xs.length → ∃ y ∈ spotss xs, isSpl y = false
  | [], _, h => by simp at h
  | x :: xs, h, _ => by
    unfold TsOk at h
    obtain ⟨y, hy, h2⟩ := spots_leaf x h.1
    exact ⟨y, by unfold spotss; exact List.mem_append_left _ hy, h2⟩
end
theorem b_otree {K : PySem.W.Frag} {k k2 : Nat} {b : Addr} {x : Tr} {n C : Nat} {m : Mu} (hk : dep x < k) (hk2 : dep x < k2) (h : POT b x n C m) {A : List Anc} :
    Wp A (start0 10 [.vol b, dTr x, dn n, dn C]) m (t__law_other_tree K (spPut k) spLeaf spDraw (spSpots k2)) (PFT (QOT b x m) m) := by
  obtain ⟨hb, hx, hn, hC, hs⟩ := h
  have hsp := spots_len x
  have hpos := sz_pos x
  have hok := spots_ok x hx
  have hpl : ∀ {m1 : Mu}, Bag m1 b → PLeaf b n C (spots x) m1 := fun h => ⟨h, hn, hC, fun y hy => (hok y hy).1, by omega, spots_leaf x hx⟩
  unfold t__law_other_tree
  refine q_asg1 (d := .lst ((spots x).map dTr)) (ev_callP (ATr.mk x) (by walk_at "e") ⟨hk2, by show sz x ≤ _; omega⟩) ?_
  refine q_asg (R := fun d m1 => ∃ a, d = dn a ∧ a < sz x ∧ To b m m1) (ev_draw (n := sz x) (eva_cons1 (by walk_at "e") (eva_cons1 (ev_to (ev_lenL (by walk_at "e")) (by rw [List.length_map, hsp])) eva_nil)) hb (by omega) (by omega) fun k m2 hk h2 => ⟨k, rfl, hk, h2⟩) fun d m1 q => ?_
  obtain ⟨a, rfl, ha, h1⟩ := q
  have pick : ∀ {i : Nat}, i < sz x → ∃ y, (spots x)[i]? = some y ∧ TOk y ∧ dep y ≤ dep x ∧ sz y ≤ sz x := fun {i} hi => by
    have hi' : i < (spots x).length := by omega
    exact ⟨_, List.getElem?_eq_getElem hi', hok _ (List.getElem_mem hi')⟩
  refine q_asg (R := fun d m2 => ∃ y, d = dTr y ∧ TOk y ∧ dep y ≤ dep x ∧ sz y ≤ sz x ∧ To b m m2) (ev_op (R1 := Is (.lst ((spots x).map dTr)) m1) (R2 := fun _ d m2 => ∃ k, d = dn k ∧ k < sz x ∧ To b m m2) (by walk_at "e") (fun d1 m2 q => ?_) fun d1 m2 d2 m3 q1 q2 => ?_) fun d m2 q => ?_
  · obtain ⟨rfl, rfl⟩ := q
    exact ev_draw (n := sz x) (eva_cons1 (by walk_at "e") (eva_cons1 (ev_to (ev_lenL (by walk_at "e")) (by rw [List.length_map, hsp])) eva_nil)) h1.1 (by omega) (by omega) fun k m3 hk h3 => ⟨k, rfl, hk, h1.trans h3⟩
  · obtain ⟨rfl, rfl⟩ := q1
    obtain ⟨k, rfl, hk, ht⟩ := q2
    obtain ⟨y, hy, p1, p2, p3⟩ := pick hk
    refine op_mono (o_ixL (atI_n (v := dTr y) (by rw [List.getElem?_map, hy]; rfl))) fun d m5 e => ?_
    obtain ⟨rfl, rfl⟩ := e
    exact ⟨y, rfl, p1, p2, p3, ht⟩
  obtain ⟨y0, rfl, y1, y2, y3, h2⟩ := q
  refine q_asg (R := fun d m3 => ∃ w, d = dn w ∧ To b m m3) (ev_draw (n := 4) (eva_cons1 (by walk_at "e") (eva_cons1 (by walk_at "e") eva_nil)) h2.1 (by omega) (by omega) fun k m3 hk h3 => ⟨k, rfl, h2.trans h3⟩) fun d m3 q => ?_
  obtain ⟨w, rfl, h3⟩ := q
  refine q_cut (fun r' m' => ∃ y, r' = [some (.vol b), some (dTr x), some (dn n), some (dn C), some (.lst ((spots x).map dTr)), some (dn a), some (dTr y), some (dn w), none, none] ∧ TOk y ∧ dep y ≤ dep x + 1 ∧ sz y ≤ sz x + 9 ∧ To b m m') (wp_ifs1 (evt_t (ev_eqI (by walk_at "e") (by walk_at "e")) rfl) (fun _ => wp_asg ?_) fun _ => wp_next ⟨y0, rfl, y1, by omega, by omega, h3⟩) fun r' m' q => ?_
  · refine ev_callT1 (ALeaf.mk b n C (spots x)) (by walk_at "e") (hpl h3.1) fun d m4 q => ?_
    obtain ⟨⟨y, rfl, p1, p2, p3⟩, h4⟩ := q
    exact ⟨y, rfl, p1, by omega, by omega, h3.trans h4⟩
  obtain ⟨y4, rfl, p1, p2, p3, h4⟩ := q
  refine q_cut (fun r' m' => ∃ y o8, r' = [some (.vol b), some (dTr x), some (dn n), some (dn C), some (.lst ((spots x).map dTr)), some (dn a), some (dTr y), some (dn w), o8, none] ∧ TOk y ∧ dep y ≤ dep x + 1 ∧ sz y ≤ sz x + 9 ∧ To b m m') (wp_ifs1 (evt_t (ev_eqI (by walk_at "e") (by walk_at "e")) rfl) (fun _ => ?_) fun _ => wp_next ⟨y4, _, rfl, p1, p2, p3, h4⟩) fun r' m' q => ?_
  · refine q_asg (R := fun d m5 => ∃ u v : Nat, d = .tup [dn u, dn v] ∧ To b m m5) (ev_tup (R1 := fun ds m5 => ∃ u v : Nat, ds = [dn u, dn v] ∧ To b m m5) (eva_cons (R1 := fun d m5 => ∃ u, d = dn u ∧ To b m m5) (ev_draw (n := n) (eva_cons1 (by walk_at "e") (eva_cons1 (by walk_at "e") eva_nil)) h4.1 (by omega) (by omega) fun k m3 hk h3 => ⟨k, rfl, h4.trans h3⟩) fun d m5 q => ?_) fun ds m5 q => ?_) fun d m5 q => ?_
    · obtain ⟨u, rfl, h5⟩ := q
      refine eva_cons (R1 := fun d m5 => ∃ u, d = dn u ∧ To b m m5) (ev_draw (n := n) (eva_cons1 (by walk_at "e") (eva_cons1 (by walk_at "e") eva_nil)) h5.1 (by omega) (by omega) fun k m3 hk h3 => ⟨k, rfl, h5.trans h3⟩) fun d m6 q => ?_
      obtain ⟨v, rfl, h6⟩ := q
      exact eva_mono eva_nil fun ds m8 e => by obtain ⟨rfl, rfl⟩ := e; exact ⟨u, v, rfl, h6⟩
    · obtain ⟨u, v, rfl, h5⟩ := q
      exact ⟨by show 2 ≤ sizeLine; decide, u, v, rfl, h5⟩
    obtain ⟨u, v, rfl, h5⟩ := q
    refine wp_asg (ev_tup (R1 := fun ds m6 => ∃ ys : List Tr, ds = [.str "split", dp (nrm u v), .tup (ys.map dTr)] ∧ ys.length = C ∧ (∀ y ∈ ys, TOk y ∧ dep y = 0 ∧ sz y = 1) ∧ To b m m6) (eva_cons (R1 := Is (.str "split") m5) ev_str fun d m6 q => ?_) fun ds m6 q => ?_)
    · obtain ⟨rfl, rfl⟩ := q
      refine eva_cons (R1 := Is (dp (nrm u v)) m6) (by rw [dp_nrm]; exact ev_tup1 (eva_cons1 (ev_cb1 (eva_cons1 (by walk_at "e") eva_nil) c_minT) (eva_cons1 (ev_cb1 (eva_cons1 (by walk_at "e") eva_nil) c_maxT) eva_nil))) fun d m7 q => ?_
      obtain ⟨rfl, rfl⟩ := q
      refine eva_cons (R1 := fun d m8 => ∃ ys : List Tr, d = .tup (ys.map dTr) ∧ ys.length = C ∧ (∀ y ∈ ys, TOk y ∧ dep y = 0 ∧ sz y = 1) ∧ To b m m8) (ev_tupleR (R1 := fun d m8 => ∃ ys : List Tr, d = .lst (ys.map dTr) ∧ ys.length = C ∧ (∀ y ∈ ys, TOk y ∧ dep y = 0 ∧ sz y = 1) ∧ To b m m8) (ev_lcI (fun m' => To b m m') (List.range C) dn dTr (fun _ y => TOk y ∧ dep y = 0 ∧ sz y = 1) (src_rngN (n := C) (by walk_at "e") (by omega)) h5 (fun _ _ => trivial) (fun i hi m8 h8 => ⟨_, [9], by simp, gd_name, ev_callT1 (ALeaf.mk b n C (spots x)) (by walk_at "e") (hpl h8.1) fun d m9 q => ?_⟩) (by rw [List.length_range]; omega) fun xs m8 hx hq h8 => ⟨xs, rfl, by rw [hx, List.length_range], fun y hy => ?_, h8⟩) fun d m8 q => ?_) fun d m8 q => ?_
      · obtain ⟨⟨y, rfl, p1, p2, p3⟩, h9⟩ := q
        exact ⟨y, rfl, ⟨p1, p2, p3⟩, h8.trans h9⟩
      · obtain ⟨i, hi, e⟩ := List.mem_iff_getElem.mp hy
        have hi2 : i < C := by rw [hx, List.length_range] at hi; exact hi
        exact hq i i y (by rw [List.getElem?_range hi2]) (by rw [List.getElem?_eq_getElem hi, e])
      · obtain ⟨ys, rfl, q1, q2, q3⟩ := q
        exact ⟨_, .inl rfl, ys, rfl, q1, q2, q3⟩
      · obtain ⟨ys, rfl, q1, q2, q3⟩ := q
        exact eva_mono eva_nil fun ds m9 e => by obtain ⟨rfl, rfl⟩ := e; exact ⟨ys, rfl, q1, q2, q3⟩
    · obtain ⟨ys, rfl, q1, q2, q3⟩ := q
      refine ⟨by show 3 ≤ sizeLine; decide, .spl (nrm u v) ys, _, by rw [← dTrs_map ys]; rfl, ?_, ?_, ?_, q3⟩
      · unfold TOk
        exact ⟨by omega, TsOk_iff.mpr fun y hy => (q2 y hy).1⟩
      · rw [dep]
        have := deps_le fun y hy => Nat.le_of_eq (q2 y hy).2.1
        omega
      · rw [sz]
        have key : ∀ zs : List Tr, (∀ z ∈ zs, sz z = 1) → szs zs = zs.length := fun zs => by
          induction zs with
          | nil => intro _; rw [szs]; rfl
          | cons z zs ih => intro hz; rw [szs_cons, ih fun y hy => hz y (List.mem_cons_of_mem _ hy), hz z List.mem_cons_self, List.length_cons]; omega
        rw [key ys fun y hy => (q2 y hy).2.2]
        omega
  obtain ⟨y5, o8, rfl, r1, r2, r3, h5⟩ := q
  refine q_cut (fun r' m' => ∃ y o8, r' = [some (.vol b), some (dTr x), some (dn n), some (dn C), some (.lst ((spots x).map dTr)), some (dn a), some (dTr y), some (dn w), o8, none] ∧ TOk y ∧ dep y ≤ dep x + 1 ∧ sz y ≤ sz x + 9 ∧ To b m m') (wp_ifs1 (evt_t (ev_eqI (by walk_at "e") (by walk_at "e")) rfl) (fun _ => ?_) fun _ => wp_next ⟨y5, _, rfl, r1, r2, r3, h5⟩) fun r' m' q => ?_
  · obtain ⟨y, hy, s1, s2, s3⟩ := pick ha
    refine wp_asg (ev_mono (ev_ixL (i := (a : Int)) (d := dTr y) (by walk_at "e") (by walk_at "e") (atI_n (by rw [List.getElem?_map, hy]; rfl))) fun d m6 q => ?_)
    obtain ⟨rfl, rfl⟩ := q
    exact ⟨y, _, rfl, s1, by omega, by omega, h5⟩
  obtain ⟨y6, o8, rfl, s1, s2, s3, h6⟩ := q
  refine wp_ret (ev_callT1 (APut.mk x a y6) (by walk_at "e") ⟨hk, ha, hx, s1, by show sz x ≤ _; omega⟩ fun d m7 q => ?_)
  obtain ⟨⟨z, rfl, t1, t2, t3⟩, rfl⟩ := q
  show FinT _ _ _ _
  refine fin_to h6.x fun m' h => ⟨⟨z, rfl, t1, ?_, ?_⟩, h⟩
  · have : dep z ≤ dep x + dep y6 := t2
    omega
  · have : sz z ≤ sz x + sz y6 := t3
    omega
end Hue
namespace Hue
open PySem PySem.Spec PyProof.Rows L2 DL
/-- the evaluation of an expression that reckons alone -/
local macro_rules | `(tactic| walk_at "e") => `(tactic| first
  | (with_reducible apply ev_var); rfl
  | (with_reducible exact ev_int)
  | ((with_reducible refine ev_to ev_int ?_); rfl)
  | (with_reducible exact ev_bl)
  | (with_reducible exact ev_str)
  | (with_reducible exact ev_non)
  | (with_reducible exact eva_nil)
  | (with_reducible apply eva_cons1) <;> walk_at "e"
  | (with_reducible apply ev_tup1) <;> walk_at "e"
  | (with_reducible apply ev_add) <;> walk_at "e"
  | (with_reducible apply ev_sub) <;> walk_at "e"
  | (with_reducible apply ev_ixT) <;> walk_at "e"
  | (with_reducible apply ev_ixL) <;> (walk_at "e"; done)
  | (with_reducible apply ev_ixV) <;> walk_at "e"
  | (with_reducible apply ev_lt) <;> walk_at "e"
  | (with_reducible apply ev_le) <;> walk_at "e"
  | (with_reducible apply ev_gt) <;> walk_at "e"
  | (with_reducible apply ev_ge) <;> walk_at "e"
  | (with_reducible apply ev_eqI) <;> (walk_at "e"; done)
  | (with_reducible apply ev_neI) <;> (walk_at "e"; done)
  | (with_reducible apply ev_isN) <;> walk_at "e"
  | (with_reducible apply ev_notN) <;> walk_at "e"
  | (with_reducible apply ev_neg) <;> walk_at "e"
  | (with_reducible apply ev_min2) <;> walk_at "e"
  | (with_reducible apply ev_max2) <;> walk_at "e"
  | (with_reducible apply ev_lenT) <;> (walk_at "e"; done)
  | (with_reducible apply ev_lenL) <;> (walk_at "e"; done)
  | (with_reducible apply ev_lenV) <;> walk_at "e"
  | (with_reducible apply ev_lenD) <;> walk_at "e"
  | (with_reducible apply ev_lst1) <;> walk_at "e"
  | (with_reducible assumption)
  | (with_reducible rfl)
  | rfl
  | exact Nat.le_of_ble_eq_true rfl)
local macro_rules | `(tactic| walk_at "t") => `(tactic| first
  | (with_reducible apply evt_test1) <;> walk_at "e"
  | (with_reducible apply evt_B1) <;> walk_at "e"
  | (with_reducible apply evt_not1) <;> walk_at "t")
/-- the same, brought to the wanted form -/
local macro_rules | `(tactic| walk_at "c") => `(tactic| (refine ev_to (by walk_at "e") ?_; first | rfl | (simp only [D.int.injEq]; omega)))
/-! another demand -/
structure AOD where
  (b : Addr) (ws : List Web)
structure QOD (b : Addr) (m : Mu) (d : D) (m' : Mu) : Prop where
  q : ∃ vs, d = dDm vs ∧ DemOk vs
  t : To b m m'
abbrev spOD : Sp := spT (α := AOD) (fun a => [.vol a.b, dDm a.ws]) (fun a m => Bag m a.b ∧ DemOk a.ws) fun a m d m' => QOD a.b m d m'
theorem full_ok {n : Nat} (h2 : 2 ≤ n) (h5 : n ≤ 5) : WebOk (n, tiesN n) := by
  have : n = 2 ∨ n = 3 ∨ n = 4 ∨ n = 5 := by omega
  rcases this with rfl | rfl | rfl | rfl <;> exact ⟨by decide, by decide, by decide, by decide, by decide⟩
def pathN (n : Nat) : List Tie := (List.range (n - 1)).map fun i => (i, i + 1)
theorem path_ok {n : Nat} (h2 : 2 ≤ n) (h5 : n ≤ 5) : WebOk (n, pathN n) := by
  have : n = 2 ∨ n = 3 ∨ n = 4 ∨ n = 5 := by omega
  rcases this with rfl | rfl | rfl | rfl <;> exact ⟨by decide, by decide, by decide, by decide, by decide⟩
/-- the webs so far -/
structure OD (b l : Addr) (ws vs : List Web) (m m' : Mu) : Prop where
  hl : m' l = some (.lst (vs.map dW))
  hn : vs.length = ws.length
  hv : ∀ v ∈ vs, WebOk v
  ht : ToX b m m'
theorem OD.to {b l : Addr} {ws vs : List Web} {m m1 m2 : Mu} (h : OD b l ws vs m m1) (n : l ≠ b) (k : To b m1 m2) : OD b l ws vs m m2 := ⟨by rw [k.2 l n]; exact h.hl, h.hn, h.hv, h.ht.to k⟩
theorem OD.set {b l : Addr} {ws vs : List Web} {m m1 : Mu} (h : OD b l ws vs m m1) (n : l ≠ b) (hl : ¬ dm m l) {i : Nat} {v : Web} (hv : WebOk v) : OD b l ws (vs.set i v) m (pt m1 l (.lst ((vs.map dW).set i (dW v)))) :=
  ⟨by rw [pt_same, List.map_set], by rw [List.length_set]; exact h.hn, fun w hw => by
    rcases List.mem_or_eq_of_mem_set hw with hw | rfl
    · exact h.hv w hw
    · exact hv, h.ht.put n hl⟩
theorem wp_webSet {A : List Anc} {r : Rho} {m m1 : Mu} {P : Post} {te : TE} {b l : Addr} {ws vs : List Web} {i vl vi : Nat} (n : l ≠ b) (hl : ¬ dm m l) (o : OD b l ws vs m m1) (hi : i < ws.length) (h1 : r[vl]? = some (some (.vol l))) (h2 : r[vi]? = some (some (dn i)))
    (h : Ev r m1 te fun d m2 => ∃ v, d = dW v ∧ WebOk v ∧ To b m1 m2) (k : ∀ vs' m2, OD b l ws vs' m m2 → P.nx r m2) : Wp A r m1 (tAsg te (gSub (tVar vl) (tVar vi) rSetL)) P :=
  wp_setL h fun d m2 q => by
    obtain ⟨v, rfl, hv, ht⟩ := q
    have o2 := o.to n ht
    exact ⟨l, vs.map dW, i, ev_var h1, ev_var h2, o2.hl, by rw [List.length_map, o2.hn]; exact hi, k _ _ (o2.set n hl hv)⟩
theorem OD.at {K : PySem.W.Frag} {r : Rho} {b l : Addr} {ws vs : List Web} {m m1 : Mu} {i vl vi : Nat} (o : OD b l ws vs m m1) (hi : i < ws.length) (h1 : r[vl]? = some (some (.vol l))) (h2 : r[vi]? = some (some (dn i))) : Ev1 r m1 (tOp (rIxL K) (tVar vl) (tVar vi)) (dW (nWeb vs i)) :=
  ev_ixV (i := (i : Int)) (ev_var h1) (ev_var h2) o.hl (atI_n (by rw [List.getElem?_map, nWeb_at (by rw [o.hn]; exact hi)]; rfl))
theorem b_odemand {K : PySem.W.Frag} {b : Addr} {ws : List Web} {m : Mu} (hb : Bag m b) (hw : DemOk ws) {A : List Anc} :
    Wp A (start0 7 [.vol b, dDm ws]) m (t__law_other_demand K spTies spMoved spTurned spWeb spDraw) (PFT (QOD b m) m) := by
  have h1 := hw.lo
  have h4 := hw.hi
  unfold t__law_other_demand
  refine q_asgV (ev_cb1 (eva_cons1 (ev_var rfl) eva_nil) (c_listT (.inr rfl))) fun l hl => ?_
  have lb : l ≠ b := fun e => hl (e ▸ hb.dm)
  have o0 : OD b l ws ws m (pt m l (.lst (ws.map dW))) := ⟨pt_same, rfl, hw.w, (ToX.refl hb).put lb hl⟩
  generalize pt m l (.lst (ws.map dW)) = m0 at o0
  have hlen : ∀ {r : Rho} {m1 : Mu} {vs : List Web}, OD b l ws vs m m1 → r[2]? = some (some (.vol l)) → Ev1 r m1 (tCB (rLenS K) (tCons (tVar 2) tNil)) (dn ws.length) := fun o h => ev_to (ev_lenV (ev_var h) o.hl) (by rw [List.length_map, o.hn])
  refine q_asg (R := fun d m1 => ∃ a, d = dn a ∧ a < ws.length ∧ OD b l ws ws m m1) (ev_draw (n := ws.length) (eva_cons1 (by walk_at "e") (eva_cons1 (hlen o0 rfl) eva_nil)) o0.ht.1 h1 (by omega) fun k m2 hk h2 => ⟨k, rfl, hk, o0.to lb h2⟩) fun d m1 q => ?_
  obtain ⟨a, rfl, ha, o1⟩ := q
  refine q_asg (R := fun d m2 => ∃ c, d = dn c ∧ c < ws.length ∧ OD b l ws ws m m2) (ev_draw (n := ws.length) (eva_cons1 (by walk_at "e") (eva_cons1 (hlen o1 rfl) eva_nil)) o1.ht.1 h1 (by omega) fun k m2 hk h2 => ⟨k, rfl, hk, o1.to lb h2⟩) fun d m2 q => ?_
  obtain ⟨c, rfl, hc, o2⟩ := q
  refine q_asg (R := fun d m2 => ∃ w, d = dn w ∧ OD b l ws ws m m2) (ev_draw (n := 5) (eva_cons1 (by walk_at "e") (eva_cons1 (by walk_at "e") eva_nil)) o2.ht.1 (by omega) (by omega) fun k m2 hk h2 => ⟨k, rfl, o2.to lb h2⟩) fun d m3 q => ?_
  obtain ⟨w, rfl, o3⟩ := q
  -- one
  refine q_cut (fun r' m' => ∃ vs, r' = [some (.vol b), some (dDm ws), some (.vol l), some (dn a), some (dn c), some (dn w), none] ∧ OD b l ws vs m m') (wp_ifs1 (evt_t (ev_eqI (by walk_at "e") (by walk_at "e")) rfl) (fun _ => wp_webSet (i := a) lb hl o3 ha rfl rfl ?_ fun vs' m4 o4 => ⟨vs', rfl, o4⟩) fun _ => wp_next ⟨ws, rfl, o3⟩) fun r' m' q => ?_
  · exact ev_callT1 (AWeb.mk b 5) (by walk_at "e") ⟨o3.ht.1, by show 3 ≤ 5; omega, by show 5 ≤ 5; omega⟩ fun _ _ e => e
  obtain ⟨v4, rfl, o4⟩ := q
  have ha4 : a < v4.length := by rw [o4.hn]; exact ha
  have ok4 := o4.hv _ (nWeb_mem ha4)
  refine q_cut (fun r' m' => ∃ vs, r' = [some (.vol b), some (dDm ws), some (.vol l), some (dn a), some (dn c), some (dn w), none] ∧ OD b l ws vs m m') (wp_ifs1 (evt_t (ev_eqI (by walk_at "e") (by walk_at "e")) rfl) (fun _ => wp_webSet (i := a) lb hl o4 ha rfl rfl ?_ fun vs' m4 o4 => ⟨vs', rfl, o4⟩) fun _ => wp_next ⟨v4, rfl, o4⟩) fun r' m5 q => ?_
  · refine ev_callT (R1 := fun ds m4 => ∃ L, ds = [dW (nWeb v4 a), dL L] ∧ OrdOk L (nWeb v4 a).1 ∧ To b m' m4) (eva_cons (R1 := Is (dW (nWeb v4 a)) m') (o4.at ha rfl rfl) fun d m4 e => ?_) fun ds m4 q => ?_
    · obtain ⟨rfl, rfl⟩ := e
      refine eva_cons (R1 := fun d m5 => ∃ L, d = dL L ∧ OrdOk L (nWeb v4 a).1 ∧ To b m4 m5) (ev_turned (n := (nWeb v4 a).1) (eva_cons1 (by walk_at "e") (eva_cons1 (ev_ixT (i := 0) (o4.at ha rfl rfl) ev_int (atI_n (n := 0) rfl)) eva_nil)) o4.ht.1 (by have := ok4.hi; omega) fun L m5 hL _ h5 => ⟨L, rfl, hL, h5⟩) fun d m5 q => ?_
      obtain ⟨L, rfl, hL, h5⟩ := q
      exact eva_mono eva_nil fun ds m6 e => by obtain ⟨rfl, rfl⟩ := e; exact ⟨L, rfl, hL, h5⟩
    · obtain ⟨L, rfl, hL, h4⟩ := q
      refine ⟨AMoved.mk (nWeb v4 a) L (dL L), rfl, ok4.pm hL (.inr rfl), fun d m5 e => ?_⟩
      obtain ⟨rfl, rfl⟩ := e
      exact ⟨mvW L (nWeb v4 a), rfl, ok4.mv hL, h4⟩
  obtain ⟨v5, rfl, o5⟩ := q
  refine q_cut (fun r' m' => ∃ vs, r' = [some (.vol b), some (dDm ws), some (.vol l), some (dn a), some (dn c), some (dn w), none] ∧ OD b l ws vs m m') (wp_ifs1 (evt_t (ev_eqI (by walk_at "e") (by walk_at "e")) rfl) (fun _ => wp_seq (wp_webSet (i := a) lb hl o5 ha rfl rfl (ev_mono (ev_web (h := c) (by walk_at "e") (by walk_at "e") hc) fun d m6 e => ?_) fun vs' m6 o6 => wp_webSet (i := c) lb hl o6 hc rfl rfl (ev_mono (ev_web (h := a) (by walk_at "e") (by walk_at "e") ha) fun d m7 e => ?_) fun vs' m7 o7 => ⟨vs', rfl, o7⟩)) fun _ => wp_next ⟨v5, rfl, o5⟩) fun r' m6 q => ?_
  · obtain ⟨rfl, rfl⟩ := e
    exact ⟨_, rfl, hw.w _ (nWeb_mem hc), To.refl o5.ht.1⟩
  · obtain ⟨rfl, rfl⟩ := e
    exact ⟨_, rfl, hw.w _ (nWeb_mem ha), To.refl o6.ht.1⟩
  obtain ⟨v6, rfl, o6⟩ := q
  have ha6 : a < v6.length := by rw [o6.hn]; exact ha
  have ok6 := o6.hv _ (nWeb_mem ha6)
  refine q_cut (fun r' m' => ∃ vs, r' = [some (.vol b), some (dDm ws), some (.vol l), some (dn a), some (dn c), some (dn w), none] ∧ OD b l ws vs m m') (wp_ifs1 (evt_t (ev_eqI (by walk_at "e") (by walk_at "e")) rfl) (fun _ => wp_webSet (i := a) lb hl o6 ha rfl rfl (ev_mono (ev_tup1 (ds := [dn (nWeb v6 a).1, .tup ((tiesN (nWeb v6 a).1).map dp)]) (eva_cons1 (ev_ixT (i := 0) (o6.at ha rfl rfl) ev_int (atI_n (n := 0) rfl)) (eva_cons1 (ev_tupleL (ev_callP (ATies.mk (nWeb v6 a).1) (eva_cons1 (ev_ixT (i := 0) (o6.at ha rfl rfl) ev_int (atI_n (n := 0) rfl)) eva_nil) (by have := ok6.hi; show (nWeb v6 a).1 ≤ 100; omega))) eva_nil)) (by show 2 ≤ 1000; omega)) fun d m7 e => ?_) fun vs' m7 o7 => ⟨vs', rfl, o7⟩) fun _ => wp_next ⟨v6, rfl, o6⟩) fun r' m7 q => ?_
  · obtain ⟨rfl, rfl⟩ := e
    exact ⟨((nWeb v6 a).1, tiesN (nWeb v6 a).1), rfl, full_ok ok6.lo ok6.hi, To.refl o6.ht.1⟩
  obtain ⟨v7, rfl, o7⟩ := q
  have ha7 : a < v7.length := by rw [o7.hn]; exact ha
  have ok7 := o7.hv _ (nWeb_mem ha7)
  have lo7 := ok7.lo
  refine q_cut (fun r' m' => ∃ vs, r' = [some (.vol b), some (dDm ws), some (.vol l), some (dn a), some (dn c), some (dn w), none] ∧ OD b l ws vs m m') (wp_ifs1 (evt_t (ev_eqI (by walk_at "e") (by walk_at "e")) rfl) (fun _ => wp_webSet (i := a) lb hl o7 ha rfl rfl (ev_mono (ev_tup1 (ds := [dn (nWeb v7 a).1, .tup ((pathN (nWeb v7 a).1).map dp)]) (eva_cons1 (ev_ixT (i := 0) (o7.at ha rfl rfl) ev_int (atI_n (n := 0) rfl)) (eva_cons1 (ev_tupleL (ev_to (ev_lcM (List.range ((nWeb v7 a).1 - 1)) dn (fun i => dp (i, i + 1)) (src_rngN (n := (nWeb v7 a).1 - 1) (eva_cons1 (ev_to (ev_sub (ev_ixT (i := 0) (o7.at ha rfl rfl) ev_int (atI_n (n := 0) rfl)) ev_int) ?_) eva_nil) (by have := ok7.hi; omega)) trivial (fun i hi => ⟨_, [6], by simp, gd_name, ev_tup1 (eva_cons1 (by walk_at "e") (eva_cons1 (by walk_at "c") eva_nil))⟩) (by rw [List.length_range]; have := ok7.hi; omega)) ?_)) eva_nil)) (by show 2 ≤ 1000; omega)) fun d m8 e => ?_) fun vs' m8 o8 => ⟨vs', rfl, o8⟩) fun _ => wp_next ⟨v7, rfl, o7⟩) fun r' m8 q => ?_
  · show D.int (((nWeb v7 a).1 : Int) - 1) = D.int (((nWeb v7 a).1 - 1 : Nat) : Int)
    congr 1
    omega
  · unfold pathN; rw [List.map_map]; rfl
  · obtain ⟨rfl, rfl⟩ := e
    exact ⟨((nWeb v7 a).1, pathN (nWeb v7 a).1), rfl, path_ok ok7.lo ok7.hi, To.refl o7.ht.1⟩
  obtain ⟨v8, rfl, o8⟩ := q
  refine wp_ret (ev_mono (ev_tupleV (by walk_at "e") o8.hl) fun d m9 e => ?_)
  obtain ⟨rfl, rfl⟩ := e
  show FinT _ _ _ _
  exact fin_to o8.ht fun m' h => ⟨⟨v8, rfl, o8.hv, by rw [o8.hn]; exact h1, by rw [o8.hn]; exact h4⟩, h⟩
end Hue
namespace Hue
open PySem PySem.Spec PyProof.Rows L2 DL
/-- the evaluation of an expression that reckons alone -/
local macro_rules | `(tactic| walk_at "e") => `(tactic| first
  | (with_reducible apply ev_var); rfl
  | (with_reducible exact ev_int)
  | ((with_reducible refine ev_to ev_int ?_); rfl)
  | (with_reducible exact ev_bl)
  | (with_reducible exact ev_str)
  | (with_reducible exact ev_non)
  | (with_reducible exact eva_nil)
  | (with_reducible apply eva_cons1) <;> walk_at "e"
  | (with_reducible apply ev_tup1) <;> walk_at "e"
  | (with_reducible apply ev_add) <;> walk_at "e"
  | (with_reducible apply ev_sub) <;> walk_at "e"
  | (with_reducible apply ev_ixT) <;> walk_at "e"
  | (with_reducible apply ev_ixL) <;> (walk_at "e"; done)
  | (with_reducible apply ev_ixV) <;> walk_at "e"
  | (with_reducible apply ev_lt) <;> walk_at "e"
  | (with_reducible apply ev_le) <;> walk_at "e"
  | (with_reducible apply ev_gt) <;> walk_at "e"
  | (with_reducible apply ev_ge) <;> walk_at "e"
  | (with_reducible apply ev_eqI) <;> (walk_at "e"; done)
  | (with_reducible apply ev_neI) <;> (walk_at "e"; done)
  | (with_reducible apply ev_isN) <;> walk_at "e"
  | (with_reducible apply ev_notN) <;> walk_at "e"
  | (with_reducible apply ev_neg) <;> walk_at "e"
  | (with_reducible apply ev_min2) <;> walk_at "e"
  | (with_reducible apply ev_max2) <;> walk_at "e"
  | (with_reducible apply ev_lenT) <;> (walk_at "e"; done)
  | (with_reducible apply ev_lenL) <;> (walk_at "e"; done)
  | (with_reducible apply ev_lenV) <;> walk_at "e"
  | (with_reducible apply ev_lenD) <;> walk_at "e"
  | (with_reducible apply ev_lst1) <;> walk_at "e"
  | (with_reducible assumption)
  | (with_reducible rfl)
  | rfl
  | exact Nat.le_of_ble_eq_true rfl)
local macro_rules | `(tactic| walk_at "t") => `(tactic| first
  | (with_reducible apply evt_test1) <;> walk_at "e"
  | (with_reducible apply evt_B1) <;> walk_at "e"
  | (with_reducible apply evt_not1) <;> walk_at "t")
/-- the same, brought to the wanted form -/
local macro_rules | `(tactic| walk_at "c") => `(tactic| (refine ev_to (by walk_at "e") ?_; first | rfl | (simp only [D.int.injEq]; omega)))
/-! the scene -/
structure QScene (b : Addr) (m : Mu) (d : D) (m' : Mu) : Prop where
  q : ∃ vs few many, d = .tup [dDm vs, dn few, dn many] ∧ DemOk vs ∧ 2 ≤ few ∧ few ≤ 5 ∧ few ≤ many ∧ many ≤ 8 ∧ freeB (naiveN vs few 250 1 []) = true
  t : To b m m'
abbrev spScene : Sp := spT (α := ANamed) (fun a => [.vol a.b]) (fun a m => Bag m a.b) fun a m d m' => QScene a.b m d m'
theorem ev_pickL {K : PySem.W.Frag} {r : Rho} {m : Mu} {tl : TE} {ta : TA} {b : Addr} {E : XK} {L : List Nat} {n : Nat} {R : RR} (hl : ∀ m, Ev1 r m tl (dL L)) (ha : EvA1 r m ta [.vol b, dn n]) (hb : Bag m b) (h0 : 0 < n) (hn : n = L.length) (h1 : n < 1000000000) (k : ∀ x m2, x ∈ L → To b m m2 → R (dn x) m2) : Ev r m (tOp (rIxL K) tl (tCall spDraw [] E ta)) R :=
  ev_op (R1 := Is (dL L) m) (R2 := fun _ d m2 => ∃ k, d = dn k ∧ k < n ∧ To b m m2) (hl m) (fun d1 m2 q => by
    obtain ⟨rfl, rfl⟩ := q
    exact ev_draw (n := n) ha hb h0 h1 fun k m3 hk h3 => ⟨k, rfl, hk, h3⟩) fun d1 m2 d2 m3 q1 q2 => by
    obtain ⟨rfl, rfl⟩ := q1
    obtain ⟨i, rfl, hi, ht⟩ := q2
    have hi' : i < L.length := by omega
    exact op_mono (o_ixL (atI_n (v := dn L[i]) (by rw [List.getElem?_map, List.getElem?_eq_getElem hi']; rfl))) fun d m5 e => by
      obtain ⟨rfl, rfl⟩ := e
      exact k _ _ (List.getElem_mem hi') ht
theorem b_scene {K : PySem.W.Frag} {b : Addr} {m : Mu} (hb : Bag m b) {A : List Anc} :
    Wp A (start0 4 [.vol b]) m (t__law_scene K spDraw spNone spNamed spDem) (PFT (QScene b m) m) := by
  unfold t__law_scene
  refine q_asg (R := fun d m1 => ∃ c, d = dn c ∧ (1 ≤ c ∧ c ≤ 4) ∧ To b m m1) (ev_pickL (L := [1, 2, 2, 2, 3, 3, 4]) (n := 7) (fun m => by walk_at "c") (eva_cons1 (by walk_at "e") (eva_cons1 (by walk_at "e") eva_nil)) hb (by omega) rfl (by omega) fun x m2 hx h2 => ⟨x, rfl, ?_, h2⟩) fun d m1 q => ?_
  · have : ∀ x ∈ ([1, 2, 2, 2, 3, 3, 4] : List Nat), 1 ≤ x ∧ x ≤ 4 := by decide
    exact this x hx
  obtain ⟨c, rfl, hc, h1⟩ := q
  refine q_asg (R := fun d m2 => ∃ ws, d = dDm ws ∧ DemOk ws ∧ To b m m2) (ev_callT (R1 := fun ds m2 => ∃ n, ds = [.vol b, dn c, dn n] ∧ (3 ≤ n ∧ n ≤ 5) ∧ To b m m2) (eva_cons (R1 := Is (.vol b) m1) (by walk_at "e") fun d m2 q => ?_) fun ds m2 q => ?_) fun d m2 q => ?_
  · obtain ⟨rfl, rfl⟩ := q
    refine eva_cons (R1 := Is (dn c) m2) (by walk_at "e") fun d m3 q => ?_
    obtain ⟨rfl, rfl⟩ := q
    refine eva_cons (R1 := fun d m4 => ∃ n, d = dn n ∧ (3 ≤ n ∧ n ≤ 5) ∧ To b m m4) (ev_pickL (L := [3, 4, 5]) (n := 3) (fun m => by walk_at "c") (eva_cons1 (by walk_at "e") (eva_cons1 (by walk_at "e") eva_nil)) h1.1 (by omega) rfl (by omega) fun x m5 hx h5 => ⟨x, rfl, ?_, h1.trans h5⟩) fun d m4 q => ?_
    · have : ∀ x ∈ [3, 4, 5], 3 ≤ x ∧ x ≤ 5 := by decide
      exact this x hx
    · obtain ⟨n, rfl, hn, h4⟩ := q
      exact eva_mono eva_nil fun ds m6 e => by obtain ⟨rfl, rfl⟩ := e; exact ⟨n, rfl, hn, h4⟩
  · obtain ⟨n, rfl, hn, h2⟩ := q
    refine ⟨ADem.mk b c n, rfl, ⟨h2.1, hc, hn⟩, fun d m3 q => ?_⟩
    obtain ⟨ws, rfl, hw, h3⟩ := q
    exact ⟨ws, rfl, hw, h2.trans h3⟩
  obtain ⟨ws, rfl, hw, h2⟩ := q
  refine q_cut (fun r' m' => ∃ ws, r' = [some (.vol b), some (dn c), some (dDm ws), none] ∧ DemOk ws ∧ To b m m') (wp_ifs (evt_drawEq (n := 2) (eva_cons1 (by walk_at "e") (eva_cons1 (by walk_at "e") eva_nil)) h2.1 (by omega) (by omega)) (fun m3 q => wp_asg ?_) fun m3 q => wp_next ?_) fun r' m' q => ?_
  · obtain ⟨_, _, _, h3⟩ := q
    refine ev_callT1 (ANamed.mk b) (by walk_at "e") h3.1 fun d m4 q => ?_
    obtain ⟨ws, rfl, hw, h4⟩ := q
    exact ⟨ws, rfl, hw, (h2.trans h3).trans h4⟩
  · obtain ⟨_, _, _, h3⟩ := q
    exact ⟨ws, rfl, hw, h2.trans h3⟩
  obtain ⟨ws, rfl, hw, h3⟩ := q
  refine wp_seq (wp_asgG (is := []) (R := fun d m2 => QNone d m' m2) (ev_callT1 (ANone.mk ws) (by walk_at "e") hw fun d m4 q => q) fun d m4 q => ?_)
  obtain ⟨⟨vs, few, rfl, hv, f2, f5, hf⟩, rfl⟩ := q
  refine ⟨_, _, gd_tup (gdl_cons gd_name (gdl_cons gd_name gdl_nil)), ?_⟩
  refine wp_ret (ev_tup (R1 := fun ds m5 => ∃ many, ds = [dDm vs, dn few, dn many] ∧ few ≤ many ∧ many ≤ 8 ∧ To b m m5) (eva_cons (R1 := Is (dDm vs) m4) (by walk_at "e") fun d m5 q => ?_) fun ds m5 q => ?_)
  · obtain ⟨rfl, rfl⟩ := q
    refine eva_cons (R1 := Is (dn few) m5) (by walk_at "e") fun d m6 q => ?_
    obtain ⟨rfl, rfl⟩ := q
    refine eva_cons (R1 := fun d m7 => ∃ many, d = dn many ∧ few ≤ many ∧ many ≤ 8 ∧ To b m m7) (ev_op (R1 := Is (dn few) m6) (R2 := fun _ d m7 => ∃ k, d = dn k ∧ k < 9 - few ∧ To b m m7) (by walk_at "e") (fun d1 m7 q => ?_) fun d1 m7 d2 m8 q1 q2 => ?_) fun d m7 q => ?_
    · obtain ⟨rfl, rfl⟩ := q
      exact ev_draw (n := 9 - few) (eva_cons1 (by walk_at "e") (eva_cons1 (by walk_at "c") eva_nil)) h3.1 (by omega) (by omega) fun k m8 hk h8 => ⟨k, rfl, hk, h3.trans h8⟩
    · obtain ⟨rfl, rfl⟩ := q1
      obtain ⟨k, rfl, hk, ht⟩ := q2
      refine op_mono (o_add (i := (few : Int)) (j := (k : Int))) fun d m9 e => ?_
      obtain ⟨rfl, rfl⟩ := e
      exact ⟨few + k, rfl, by omega, by omega, ht⟩
    · obtain ⟨many, rfl, q1, q2, h7⟩ := q
      exact eva_mono eva_nil fun ds m8 e => by obtain ⟨rfl, rfl⟩ := e; exact ⟨many, rfl, q1, q2, h7⟩
  · obtain ⟨many, rfl, q1, q2, h7⟩ := q
    refine ⟨by show 3 ≤ sizeLine; decide, ?_⟩
    show FinT _ _ _ _
    exact fin_to h7.x fun m' h => ⟨⟨vs, few, many, rfl, hv, f2, f5, q1, q2, hf⟩, h⟩
/-! like cases of the law's own tree -/
abbrev End := Nat × Case
def dEn (e : End) : D := .tup [dn e.1, dC e.2]
structure GC where
  (b wk en : Addr) (ws : List Web) (P : List Nat) (few many : Nat) (sws ords : List (List Nat))
structure GOk (g : GC) : Prop where
  w : DemOk g.ws
  f2 : 2 ≤ g.few
  f5 : g.few ≤ 5
  m8 : g.many ≤ 8
  P : g.P.Nodup ∧ g.P.length = g.few ∧ ∀ x ∈ g.P, x < g.many
  s : (∀ s ∈ g.sws, OrdOk s g.ws.length) ∧ g.sws.length ≤ 10000
  o : (∀ s ∈ g.ords, OrdOk s g.few) ∧ g.ords.length ≤ 10000
  fr : freeB (naiveN g.ws g.few 250 1 []) = true
def wkL (g : GC) (num : Nat) : List D := [dDm g.ws, dL g.P, dn g.many, .lst (g.sws.map dT), .lst (g.ords.map dT), .vol g.en, dn num]
structure GSt (g : GC) (m : Mu) (ends : List End) (num : Nat) : Prop where
  hb : Bag m g.b
  hw : m g.wk = some (.lst (wkL g num))
  he : m g.en = some (.lst (ends.map dEn))
  n1 : g.wk ≠ g.b
  n2 : g.en ≠ g.b
  n3 : g.wk ≠ g.en
def EnOk (g : GC) (ends : List End) : Prop := ∀ e ∈ ends, CaseOk g.many g.ws.length e.2
structure ALk where
  (g : GC) (cs : Case) (ends : List End) (num : Nat)
structure QLk (g : GC) (m : Mu) (d : D) (m' : Mu) : Prop where
  q : d = .non ∨ ∃ k ps sw, d = dTr (.lik k ps sw) ∧ ps.length ≤ 8 ∧ sw.length ≤ 8
  m : m' = m
abbrev spLk : Sp := spT (α := ALk) (fun a => [.vol a.g.wk, dC a.cs]) (fun a m => GOk a.g ∧ GSt a.g m a.ends a.num ∧ EnOk a.g a.ends ∧ a.ends.length ≤ 10000000) fun a m d m' => QLk a.g m d m'
theorem ev_six {K : PySem.W.Frag} {r : Rho} {m : Mu} {g : GC} {ends : List End} {num : Nat} {i : Nat} (s : GSt g m ends num) (h : r[i]? = some (some (.vol g.wk))) : Ev1 r m (tSl (rSlL K) (tVar i) tNoPart (tPart (tC (.int 6)))) (.lst [dDm g.ws, dL g.P, dn g.many, .lst (g.sws.map dT), .lst (g.ords.map dT), .vol g.en]) :=
  ev_to (ev_slV (ev_var h) s.hw evo_none (evo_some (i := ((6 : Nat) : Int)) ev_int)) (by rw [cutD_take]; rfl)
theorem b_lk {K : PySem.W.Frag} {g : GC} {cs : Case} {ends : List End} {num : Nat} {m : Mu} (ok : GOk g) (s : GSt g m ends num) (he : EnOk g ends) (hl : ends.length ≤ 10000000) {A : List Anc} (hA : ∀ B ∈ A, B.M = dm m) :
    Wp A (start0 16 [.vol g.wk, dC cs]) m (t__law_like K spHue) (PFT (QLk g m) m) := by
  have h4 := ok.w.hi
  have hm8 := ok.m8
  have hf5 := ok.f5
  unfold t__law_like
  refine q_asgG (ev_six s rfl) (gd_unl (gdl_cons gd_name (gdl_cons gd_name (gdl_cons gd_name (gdl_cons gd_name (gdl_cons gd_name (gdl_cons gd_name gdl_nil)))))) ) ?_
  refine q_forT ends dEn (fun i r' m' => ∃ o8 o9 o10 o11 o12 o13 : Option D, r' = [some (.vol g.wk), some (dC cs), some (dDm g.ws), some (dL g.P), some (dn g.many), some (.lst (g.sws.map dT)), some (.lst (g.ords.map dT)), some (.vol g.en), o8, o9, o10, o11, o12, o13, none, none] ∧ m' = m) (src_lv (d := .vol g.en) (by walk_at "e") (.inr ⟨g.en, rfl, s.he⟩)) ⟨none, none, none, none, none, none, rfl, rfl⟩ (fun i r' m' q => by obtain ⟨_, _, _, _, _, _, _, rfl⟩ := q; exact .inr ⟨g.en, rfl, s.he⟩) (fun B i e r' m' hB hee hj => ?_) fun r' m' hj => ?_
  · obtain ⟨o8, o9, o10, o11, o12, o13, rfl, rfl⟩ := hj
    have eok := he e (List.mem_of_getElem? hee)
    have ecl := eok.l
    refine ⟨_, _, gd_tup (gdl_cons gd_name (gdl_cons gd_name gdl_nil)), ?_⟩
    obtain ⟨L, hL, hLo, hsrc⟩ : ∃ L : List (List Nat), (∀ s ∈ L, OrdOk s g.few) ∧ L.length ≤ 10000 ∧ Src [some (.vol g.wk), some (dC cs), some (dDm g.ws), some (dL g.P), some (dn g.many), some (.lst (g.sws.map dT)), some (.lst (g.ords.map dT)), some (.vol g.en), some (dn e.1), some (dC e.2), o10, o11, o12, o13, none, none] m' (iList K (tOp rRep (tVar 6) (tCB rInt1 (tCons (tOp rEq (tCB rLenT (tCons (tVar 9) tNil)) (tCB rLenT (tCons (tVar 1) tNil))) tNil)))) KT (SIs (L.map dT) m') := by
      have hev : ∀ {r : Rho}, r[6]? = some (some (.lst (g.ords.map dT))) → r[9]? = some (some (dC e.2)) → r[1]? = some (some (dC cs)) → Ev1 r m' (tOp rRep (tVar 6) (tCB rInt1 (tCons (tOp rEq (tCB rLenT (tCons (tVar 9) tNil)) (tCB rLenT (tCons (tVar 1) tNil))) tNil))) (.lst (List.replicate (if decide (((e.2.map cI).length : Int) = ((cs.map cI).length : Nat)) = true then (1 : Int) else 0).toNat (g.ords.map dT)).flatten) := fun h6 h9 h1 => by
        refine ev_op1 (ev_var h6) (ev_int1 (ev_eqI (ev_lenD (ev_var h9)) (ev_lenD (ev_var h1)))) (o_rep (.inl rfl) ?_ ?_)
        · split <;> decide
        · rw [List.length_map]
          have := ok.o.2
          split
          · show _ * 1 ≤ _; omega
          · show _ * 0 ≤ _; omega
      by_cases hq : ((e.2.map cI).length : Int) = ((cs.map cI).length : Nat)
      · refine ⟨g.ords, ok.o.1, ok.o.2, src_list1 (ev_to (hev rfl rfl rfl) ?_)⟩
        rw [if_pos (decide_eq_true hq)]
        show D.lst (List.replicate 1 _).flatten = _
        simp
      · refine ⟨[], by simp, by simp, src_list1 (ev_to (hev rfl rfl rfl) ?_)⟩
        rw [if_neg (by rw [decide_eq_false hq]; decide)]
        rfl
    refine wp_forT L dT (fun i r' m'' => ∃ o10 o11 o12 o13 : Option D, r' = [some (.vol g.wk), some (dC cs), some (dDm g.ws), some (dL g.P), some (dn g.many), some (.lst (g.sws.map dT)), some (.lst (g.ords.map dT)), some (.vol g.en), some (dn e.1), some (dC e.2), o10, o11, o12, o13, none, none] ∧ m'' = m') hsrc ⟨_, _, _, _, rfl, rfl⟩ (fun _ _ _ _ => trivial) (fun B2 i2 ord r2 m2 hB2 hord hj => ?_) fun r2 m2 hj => ?_
    · obtain ⟨o10, o11, o12, o13, rfl, rfl⟩ := hj
      have oo := hL ord (List.mem_of_getElem? hord)
      refine ⟨_, _, gd_name, q_asgV (c := .lst ((List.range g.many).map dn)) (ev_mono (ev_listRg (by walk_at "e") (by omega) (.inr rfl)) fun d m3 q => by rw [rng_dn2] at q; exact q) fun l hll => ?_⟩
      refine q_forT (List.range g.P.length) dn (fun i r' m'' => ∃ (o12 : Option D) (F : List Nat), r' = [some (.vol g.wk), some (dC cs), some (dDm g.ws), some (dL g.P), some (dn g.many), some (.lst (g.sws.map dT)), some (.lst (g.ords.map dT)), some (.vol g.en), some (dn e.1), some (dC e.2), some (dT ord), some (.vol l), o12, o13, none, none] ∧ m'' = pt m2 l (.lst (F.map dn)) ∧ F.length = g.many) (src_rngN (n := g.P.length) (eva_cons1 (ev_to (ev_lenL (by walk_at "e")) (by rw [List.length_map])) eva_nil) (by have := ok.P.2.1; omega)) ⟨_, List.range g.many, rfl, rfl, List.length_range⟩ (fun _ _ _ _ => trivial) (fun B3 i3 sp r3 m3 hB3 hsp hj => ?_) fun r3 m3 hj => ?_
      · obtain ⟨o12, F, rfl, rfl, hF⟩ := hj
        have hsl : sp < g.P.length := List.mem_range.mp (List.mem_of_getElem? hsp)
        have hso : sp < ord.length := by rw [oo.len, ← ok.P.2.1]; exact hsl
        have ho2 : ord.getD sp 0 < g.P.length := by rw [ok.P.2.1]; exact oo.lt _ (getD_mem hso)
        refine ⟨_, _, gd_name, wp_setL (R1 := Is (dn (g.P.getD (ord.getD sp 0) 0)) (pt m2 l (.lst (F.map dn)))) (ev_ixL (i := (ord.getD sp 0 : Nat)) (by walk_at "e") (ev_ixT (i := (sp : Int)) (by walk_at "e") (by walk_at "e") (dn_at hso)) (dn_at ho2)) fun d m4 q => ?_⟩
        obtain ⟨rfl, rfl⟩ := q
        refine ⟨l, F.map dn, g.P.getD sp 0, by walk_at "e", ev_ixL (i := (sp : Int)) (by walk_at "e") (by walk_at "e") (dn_at hsl), pt_same, ?_, _, F.set (g.P.getD sp 0) (g.P.getD (ord.getD sp 0) 0), rfl, ?_, by rw [List.length_set]; exact hF⟩
        · rw [List.length_map, hF]; exact ok.P.2.2 _ (getD_mem hsl)
        · rw [pt_pt, List.map_set]
      · obtain ⟨o12, F, rfl, rfl, hF⟩ := hj
        refine wp_freeze (i := 11) rfl pt_same rfl (fun B' hB' => ?_) ?_
        · rcases List.mem_cons.mp hB' with rfl | hB'
          · rw [hB2]; exact hll
          · rcases List.mem_cons.mp hB' with rfl | hB'
            · rw [hB]; exact hll
            · rw [hA B' hB']; exact hll
        rw [rm_pt hll]
        refine wp_forT g.sws dT (fun i r' m'' => ∃ o13 : Option D, r' = [some (.vol g.wk), some (dC cs), some (dDm g.ws), some (dL g.P), some (dn g.many), some (.lst (g.sws.map dT)), some (.lst (g.ords.map dT)), some (.vol g.en), some (dn e.1), some (dC e.2), some (dT ord), some (dL F), o12, o13, none, none] ∧ m'' = m2) (src_list1 (by walk_at "e")) ⟨_, rfl, rfl⟩ (fun _ _ _ _ => trivial) (fun B4 i4 sw r4 m4 hB4 hsw hj => ?_) fun r4 m4 hj => ?_
        · obtain ⟨o13, rfl, rfl⟩ := hj
          have so := ok.s.1 sw (List.mem_of_getElem? hsw)
          refine ⟨_, _, gd_name, wp_ifs1 (evt_B1 (ev_all (bs := e.2.map fun p => decide ((hueN cs (F.getD p.1.1 0) (F.getD p.1.2 0) : Int) = (sw.getD p.2 0 : Nat))) (ev_to (ev_lcM e.2 (fun p => tk (iT p.1)) (fun p => .bl (decide ((hueN cs (F.getD p.1.1 0) (F.getD p.1.2 0) : Int) = (sw.getD p.2 0 : Nat)))) (src_list1 (ev_to (ev_listD (.inl rfl) (by walk_at "e")) (by rw [List.map_map]; rfl))) trivial (fun p hp => ⟨_, _, ?_, gd_tup (gdl_cons gd_name (gdl_cons gd_name gdl_nil)), ev_eqI (ev_hue (.inl rfl) (by walk_at "e") (ev_ixL (i := (p.1.1 : Int)) (by walk_at "e") (by walk_at "e") (dn_at ?_)) (ev_ixL (i := (p.1.2 : Int)) (by walk_at "e") (by walk_at "e") (dn_at ?_))) (ev_ixT (i := (p.2 : Int)) (by walk_at "e") (ev_dix (k := iT p.1) (.inl rfl) (by walk_at "e") (by walk_at "e") ?_) (dn_at ?_))⟩) ?_) ?_))) (fun _ => wp_ret (ev_mono (ev_tup1 (ds := [.str "like", dn e.1, dT F, dT sw]) (eva_cons1 ev_str (eva_cons1 (by walk_at "e") (eva_cons1 (ev_tupleL (by walk_at "e")) (by walk_at "e")))) (by show 4 ≤ 1000; omega)) fun d m5 q => ?_)) fun _ => wp_next ⟨_, rfl, rfl⟩⟩
          · simp
          · have := eok.k p hp; omega
          · have := eok.k p hp; omega
          · rw [dget_cI, cget_mem eok.nd hp]; rfl
          · rw [so.len]; exact eok.v p hp
          · omega
          · rw [List.map_map]; rfl
          · obtain ⟨rfl, rfl⟩ := q
            show FinT _ _ _ _
            exact fin_same (fun _ h => h) ⟨.inr ⟨e.1, F, sw, rfl, by omega, by rw [so.len]; omega⟩, rfl⟩
        · obtain ⟨o13, rfl, rfl⟩ := hj
          exact ⟨_, _, _, _, rfl, rfl⟩
    · obtain ⟨o10, o11, o12, o13, rfl, rfl⟩ := hj
      exact ⟨_, _, _, _, _, _, rfl, rfl⟩
  · obtain ⟨o8, o9, o10, o11, o12, o13, rfl, rfl⟩ := hj
    refine wp_ret (ev_mono ev_non fun d m5 q => ?_)
    obtain ⟨rfl, rfl⟩ := q
    show FinT _ _ _ _
    exact fin_same (fun _ h => h) ⟨.inl rfl, rfl⟩
end Hue
namespace Hue
open PySem PySem.Spec PyProof.Rows L2 DL
/-- the evaluation of an expression that reckons alone -/
local macro_rules | `(tactic| walk_at "e") => `(tactic| first
  | (with_reducible apply ev_var); rfl
  | (with_reducible exact ev_int)
  | ((with_reducible refine ev_to ev_int ?_); rfl)
  | (with_reducible exact ev_bl)
  | (with_reducible exact ev_str)
  | (with_reducible exact ev_non)
  | (with_reducible exact eva_nil)
  | (with_reducible apply eva_cons1) <;> walk_at "e"
  | (with_reducible apply ev_tup1) <;> walk_at "e"
  | (with_reducible apply ev_add) <;> walk_at "e"
  | (with_reducible apply ev_sub) <;> walk_at "e"
  | (with_reducible apply ev_ixT) <;> walk_at "e"
  | (with_reducible apply ev_ixL) <;> (walk_at "e"; done)
  | (with_reducible apply ev_ixV) <;> walk_at "e"
  | (with_reducible apply ev_lt) <;> walk_at "e"
  | (with_reducible apply ev_le) <;> walk_at "e"
  | (with_reducible apply ev_gt) <;> walk_at "e"
  | (with_reducible apply ev_ge) <;> walk_at "e"
  | (with_reducible apply ev_eqI) <;> (walk_at "e"; done)
  | (with_reducible apply ev_neI) <;> (walk_at "e"; done)
  | (with_reducible apply ev_isN) <;> walk_at "e"
  | (with_reducible apply ev_notN) <;> walk_at "e"
  | (with_reducible apply ev_neg) <;> walk_at "e"
  | (with_reducible apply ev_min2) <;> walk_at "e"
  | (with_reducible apply ev_max2) <;> walk_at "e"
  | (with_reducible apply ev_lenT) <;> (walk_at "e"; done)
  | (with_reducible apply ev_lenL) <;> (walk_at "e"; done)
  | (with_reducible apply ev_lenV) <;> walk_at "e"
  | (with_reducible apply ev_lenD) <;> walk_at "e"
  | (with_reducible apply ev_lst1) <;> walk_at "e"
  | (with_reducible assumption)
  | (with_reducible rfl)
  | rfl
  | exact Nat.le_of_ble_eq_true rfl)
local macro_rules | `(tactic| walk_at "t") => `(tactic| first
  | (with_reducible apply evt_test1) <;> walk_at "e"
  | (with_reducible apply evt_B1) <;> walk_at "e"
  | (with_reducible apply evt_not1) <;> walk_at "t")
/-- the same, brought to the wanted form -/
local macro_rules | `(tactic| walk_at "c") => `(tactic| (refine ev_to (by walk_at "e") ?_; first | rfl | (simp only [D.int.injEq]; omega)))
/-! no colouring is free -/
def Shut (ws : List Web) (n : Nat) (h : List Nat) : Prop := ∀ g, h <+: g → g.length = (tiesN n).length → (∀ x ∈ g, x < ws.length) → ∃ j, 0 < j ∧ j ≤ g.length ∧ (closing ws n (g.take j).reverse).isSome = true
def Inv (ws : List Web) (n : Nat) : List Nat → Prop
  | [] => True
  | x :: t => Inv ws n t ∧ ∀ c, c < x → Shut ws n (t.reverse ++ [c])
theorem shut_all {ws : List Web} {n : Nat} {h : List Nat} (hl : h.length < (tiesN n).length) (hs : ∀ c, c < ws.length → Shut ws n (h ++ [c])) : Shut ws n h := fun g hg hgl hgc => by
  obtain ⟨t, rfl⟩ := hg
  cases t with
  | nil => rw [List.append_nil] at hgl; omega
  | cons c t =>
    exact hs c (hgc c (by simp)) (h ++ c :: t) ⟨t, by simp⟩ hgl hgc
theorem popR_inv {ws : List Web} {n : Nat} : ∀ {st : List Nat}, Inv ws n st → Shut ws n st.reverse → st.length ≤ (tiesN n).length → (popR ws.length st = [] → Shut ws n []) ∧ ∀ h t, popR ws.length st = h :: t → Inv ws n ((h + 1) :: t)
  | [], _, hs, _ => ⟨fun _ => hs, fun h t e => by cases e⟩
  | x :: t, hi, hs, hl => by
    unfold Inv at hi
    rw [List.reverse_cons] at hs
    rw [List.length_cons] at hl
    unfold popR
    split
    · rename_i e
      refine popR_inv hi.1 (shut_all (by rw [List.length_reverse]; omega) fun c hc => ?_) (by omega)
      by_cases hcx : c < x
      · exact hi.2 c hcx
      · have : c = x := by omega
        subst this
        exact hs
    · refine ⟨fun e => (by cases e), fun h t' e => ?_⟩
      cases e
      unfold Inv
      refine ⟨hi.1, fun c hc => ?_⟩
      by_cases hcx : c < x
      · exact hi.2 c hcx
      · have : c = x := by omega
        subst this
        exact hs
theorem closing_shut {ws : List Web} {n : Nat} {st : List Nat} (h : (closing ws n st).isSome = true) : Shut ws n st.reverse := fun g hg hgl hgc => by
  obtain ⟨t, rfl⟩ := hg
  refine ⟨st.reverse.length, ?_, by rw [List.length_append]; omega, by rw [List.take_left, List.reverse_reverse]; exact h⟩
  cases st with
  | nil => cases h
  | cons x t => simp
theorem naive_shut {ws : List Web} {n : Nat} (hw : 1 ≤ ws.length) : ∀ {f d : Nat} {st : List Nat}, freeB (naiveN ws n f d st) = true → Inv ws n st → st.length ≤ (tiesN n).length → (∀ x ∈ st, x < ws.length) → Shut ws n []
  | 0, _, _, h, _, _, _ => by cases h
  | f + 1, d, st, h, hi, hl, hx => by
    unfold naiveN at h
    cases hc : closing ws n st with
    | none =>
      rw [hc] at h
      simp only at h
      split at h
      · cases h
      · rename_i hne
        refine naive_shut hw h ?_ (by rw [List.length_cons]; omega) (fun x hxm => ?_)
        · unfold Inv
          exact ⟨hi, fun c hc => by omega⟩
        · rcases List.mem_cons.mp hxm with rfl | hxm
          · exact hw
          · exact hx x hxm
    | some r =>
      rw [hc] at h
      simp only at h
      have hs := closing_shut (ws := ws) (n := n) (st := st) (by rw [hc]; rfl)
      obtain ⟨p1, p2⟩ := popR_inv hi hs hl
      cases hp : popR ws.length st with
      | nil => exact p1 hp
      | cons y t =>
        rw [hp] at h
        simp only at h
        obtain ⟨q1, q2, q3⟩ := popR_lt hx hp
        refine naive_shut hw h (p2 y t hp) (by rw [List.length_cons]; omega) (fun x hxm => ?_)
        rcases List.mem_cons.mp hxm with rfl | hxm
        · exact q1
        · exact q2 x hxm
/-! the same by other points -/
theorem cget_zip {k k' : Tie} {f : Tie → Tie} : ∀ {ts : List Tie} {hs : List Nat}, (∀ t ∈ ts, (f t = k' ↔ t = k)) → cget ((ts.map f).zip hs) k' = cget (ts.zip hs) k
  | [], _, _ => by simp [cget]
  | _ :: _, [], _ => by simp [cget]
  | t :: ts, x :: hs, h => by
    have ih := cget_zip (ts := ts) (hs := hs) fun u hu => h u (List.mem_cons_of_mem _ hu)
    have ht := h t List.mem_cons_self
    unfold cget at ih ⊢
    rw [List.map_cons, List.zip_cons_cons, List.zip_cons_cons, List.find?_cons, List.find?_cons]
    by_cases e : t = k
    · rw [decide_eq_true e, decide_eq_true (ht.mpr e)]; rfl
    · rw [decide_eq_false e, decide_eq_false fun q => e (ht.mp q)]; exact ih
/-- so many points -/
structure PtOk (P : List Nat) (n : Nat) : Prop where
  nd : P.Nodup
  len : P.length = n
theorem PtOk.inj {P : List Nat} {n a b : Nat} (h : PtOk P n) (ha : a < n) (hb : b < n) (e : P.getD a 0 = P.getD b 0) : a = b := by
  rw [List.getD_eq_getElem?_getD, List.getD_eq_getElem?_getD, List.getElem?_eq_getElem (by rw [h.len]; exact ha), List.getElem?_eq_getElem (by rw [h.len]; exact hb)] at e
  exact (List.getElem_inj h.nd).mp e
def caseP (n : Nat) (P hs : List Nat) : Case := ((tiesN n).map (mvT P)).zip hs
theorem hue_P {n : Nat} {P hs : List Nat} (h : PtOk P n) {a b : Nat} (ha : a < n) (hb : b < n) : hueN (caseP n P hs) (P.getD a 0) (P.getD b 0) = hueN (caseN n hs) a b := by
  unfold hueN caseP caseN
  rw [cget_zip (k := nrm a b) fun t ht => ?_]
  have tk := tiesN_ok ht
  constructor
  · intro e
    rcases nrm_inj e with ⟨e1, e2⟩ | ⟨e1, e2⟩
    · have := h.inj (by omega) ha e1
      have := h.inj (by omega) hb e2
      refine Prod.ext ?_ ?_
      · show t.1 = min a b; omega
      · show t.2 = max a b; omega
    · have := h.inj (by omega) hb e1
      have := h.inj (by omega) ha e2
      refine Prod.ext ?_ ?_
      · show t.1 = min a b; omega
      · show t.2 = max a b; omega
  · intro e
    have e1 : t.1 = min a b := congrArg Prod.fst e
    have e2 : t.2 = max a b := congrArg Prod.snd e
    unfold mvT nrm
    rcases Nat.le_total a b with q | q
    · rw [show t.1 = a by omega, show t.2 = b by omega]
    · rw [show t.1 = b by omega, show t.2 = a by omega]
      exact Prod.ext (Nat.min_comm _ _) (Nat.max_comm _ _)
theorem P_map {P : List Nat} {n : Nat} (h : PtOk P n) : P = (List.range n).map fun a => P.getD a 0 := by
  apply List.ext_getElem?
  intro i
  rw [List.getElem?_map]
  by_cases hi : i < n
  · rw [List.getElem?_range hi, getD_of (by rw [h.len]; exact hi)]; rfl
  · rw [List.getElem?_eq_none (by rw [h.len]; omega), List.getElem?_eq_none (by rw [List.length_range]; omega)]; rfl
theorem flatMap_cg {α β : Type} {f g : α → List β} : ∀ {L : List α}, (∀ a ∈ L, f a = g a) → L.flatMap f = L.flatMap g
  | [], _ => rfl
  | a :: L, h => by rw [List.flatMap_cons, List.flatMap_cons, h a List.mem_cons_self, flatMap_cg fun b hb => h b (List.mem_cons_of_mem _ hb)]
theorem rows_P {H H' : Nat → Nat → Nat} {ties : List Tie} {col n : Nat} {P : List Nat} (h : PtOk P n) (hH : ∀ a b, a < n → b < n → H (P.getD a 0) (P.getD b 0) = H' a b) (ht : ∀ t ∈ ties, t.1 < t.2) : ∀ s, rowsN H ties col P s = (rowsN H' ties col (List.range n) s).map fun row => row.map fun a => P.getD a 0
  | 0 => rfl
  | s + 1 => by
    unfold rowsN
    rw [rows_P h hH ht s, List.flatMap_map, List.map_flatMap]
    have key : ∀ row ∈ rowsN H' ties col (List.range n) s, gStep H (nearN ties s) col P (row.map fun a => P.getD a 0) = (gStep H' (nearN ties s) col (List.range n) row).map fun row => row.map fun a => P.getD a 0 := fun row hrow => by
      obtain ⟨rl, rp⟩ := rowsN_row s row hrow
      unfold gStep
      conv => lhs; rw [P_map h]
      rw [List.filter_map, List.map_map, List.map_map]
      have e1 : (List.range n).filter ((gok H (nearN ties s) col (row.map fun a => P.getD a 0)) ∘ fun a => P.getD a 0) = (List.range n).filter (gok H' (nearN ties s) col row) := by
        apply List.filter_congr
        intro p hp
        have hp := List.mem_range.mp hp
        show gok H (nearN ties s) col (row.map fun a => P.getD a 0) (P.getD p 0) = _
        unfold gok
        congr 1
        · congr 1
          apply List.filter_congr
          intro a ha
          unfold nearN at ha
          obtain ⟨t, ht1, rfl⟩ := List.mem_map.mp ha
          obtain ⟨h1, h2⟩ := List.mem_filter.mp ht1
          have h2 := of_decide_eq_true h2
          have h3 := ht t h1
          have h4 : t.1 < row.length := by omega
          have e2 : (row.map fun a => P.getD a 0).getD t.1 0 = P.getD (row.getD t.1 0) 0 := by
            rw [List.getD_eq_getElem?_getD (l := row.map _), List.getElem?_map, getD_of h4]; rfl
          rw [e2, hH _ _ (List.mem_range.mp (rp _ (getD_mem h4))) hp]
        · congr 1
          apply decide_eq_decide.mpr
          constructor
          · intro hm
            obtain ⟨q, hq, e⟩ := List.mem_map.mp hm
            have := h.inj (List.mem_range.mp (rp _ hq)) hp e
            rw [← this]; exact hq
          · exact fun hm => List.mem_map.mpr ⟨p, hm, rfl⟩
      have e0 : ((List.range n).map fun a => P.getD a 0) = P := (P_map h).symm
      rw [e0, e1]
      apply List.map_congr_left
      intro p _
      show (row.map fun a => P.getD a 0) ++ [P.getD p 0] = (row ++ [p]).map fun a => P.getD a 0
      rw [List.map_append]; rfl
    exact flatMap_cg key
theorem group_P {ws : List Web} {n : Nat} {P hs : List Nat} {col : Nat} {w : Web} (h : PtOk P n) (hw : WebOk w) : (groupN (hueN (caseP n P hs)) w col P).isSome = (groupN (hueN (caseN n hs)) w col (List.range n)).isSome := by
  unfold groupN
  rw [rows_P (H' := hueN (caseN n hs)) h (fun a b ha hb => hue_P h ha hb) fun t ht => (hw.t t ht).1]
  cases rowsN (hueN (caseN n hs)) w.2 col (List.range n) w.1 <;> rfl
end Hue
namespace Hue
open PySem PySem.Spec PyProof.Rows L2 DL
/-- the evaluation of an expression that reckons alone -/
local macro_rules | `(tactic| walk_at "e") => `(tactic| first
  | (with_reducible apply ev_var); rfl
  | (with_reducible exact ev_int)
  | ((with_reducible refine ev_to ev_int ?_); rfl)
  | (with_reducible exact ev_bl)
  | (with_reducible exact ev_str)
  | (with_reducible exact ev_non)
  | (with_reducible exact eva_nil)
  | (with_reducible apply eva_cons1) <;> walk_at "e"
  | (with_reducible apply ev_tup1) <;> walk_at "e"
  | (with_reducible apply ev_add) <;> walk_at "e"
  | (with_reducible apply ev_sub) <;> walk_at "e"
  | (with_reducible apply ev_ixT) <;> walk_at "e"
  | (with_reducible apply ev_ixL) <;> (walk_at "e"; done)
  | (with_reducible apply ev_ixV) <;> walk_at "e"
  | (with_reducible apply ev_lt) <;> walk_at "e"
  | (with_reducible apply ev_le) <;> walk_at "e"
  | (with_reducible apply ev_gt) <;> walk_at "e"
  | (with_reducible apply ev_ge) <;> walk_at "e"
  | (with_reducible apply ev_eqI) <;> (walk_at "e"; done)
  | (with_reducible apply ev_neI) <;> (walk_at "e"; done)
  | (with_reducible apply ev_isN) <;> walk_at "e"
  | (with_reducible apply ev_notN) <;> walk_at "e"
  | (with_reducible apply ev_neg) <;> walk_at "e"
  | (with_reducible apply ev_min2) <;> walk_at "e"
  | (with_reducible apply ev_max2) <;> walk_at "e"
  | (with_reducible apply ev_lenT) <;> (walk_at "e"; done)
  | (with_reducible apply ev_lenL) <;> (walk_at "e"; done)
  | (with_reducible apply ev_lenV) <;> walk_at "e"
  | (with_reducible apply ev_lenD) <;> walk_at "e"
  | (with_reducible apply ev_lst1) <;> walk_at "e"
  | (with_reducible assumption)
  | (with_reducible rfl)
  | rfl
  | exact Nat.le_of_ble_eq_true rfl)
local macro_rules | `(tactic| walk_at "t") => `(tactic| first
  | (with_reducible apply evt_test1) <;> walk_at "e"
  | (with_reducible apply evt_B1) <;> walk_at "e"
  | (with_reducible apply evt_not1) <;> walk_at "t")
/-- the same, brought to the wanted form -/
local macro_rules | `(tactic| walk_at "c") => `(tactic| (refine ev_to (by walk_at "e") ?_; first | rfl | (simp only [D.int.injEq]; omega)))
/-! the law's own tree -/
def nb : Nat → Nat
  | 0 => 1
  | r + 1 => 1 + 4 * nb r
theorem nb_pos : ∀ r, 1 ≤ nb r
  | 0 => Nat.le_refl _
  | r + 1 => by show 1 ≤ 1 + 4 * nb r; omega
def TG (g : GC) (m m' : Mu) : Prop := ∀ a, a ≠ g.b → a ≠ g.wk → a ≠ g.en → m' a = m a
def TX (g : GC) (m m1 : Mu) : Prop := ∀ a, a ≠ g.b → a ≠ g.wk → a ≠ g.en → dm m a → m1 a = m a
theorem TX.dm {g : GC} {m m1 : Mu} (h : TX g m m1) {ends : List End} {num : Nat} (s : GSt g m1 ends num) {a : Addr} (ha : DL.dm m a) : DL.dm m1 a := by
  by_cases h1 : a = g.b
  · subst h1; exact s.hb.dm
  by_cases h2 : a = g.wk
  · subst h2; exact dm_of s.hw
  by_cases h3 : a = g.en
  · subst h3; exact dm_of s.he
  unfold DL.dm
  rw [h a h1 h2 h3 ha]; exact ha
theorem TX.refl {g : GC} {m : Mu} : TX g m m := fun _ _ _ _ _ => rfl
theorem TX.trans {g : GC} {m m1 m2 : Mu} (h : TX g m m1) {ends : List End} {num : Nat} (s : GSt g m1 ends num) (k : TX g m1 m2) : TX g m m2 := fun a h1 h2 h3 ha => (k a h1 h2 h3 (h.dm s ha)).trans (h a h1 h2 h3 ha)
theorem TG.x {g : GC} {m m1 : Mu} (h : TG g m m1) : TX g m m1 := fun a h1 h2 h3 _ => h a h1 h2 h3
theorem TX.put {g : GC} {m m1 : Mu} (h : TX g m m1) {l : Addr} {c : VC} (hl : ¬ DL.dm m l) : TX g m (pt m1 l c) := fun a h1 h2 h3 ha => by
  rw [pt_ne (ne_dm ha hl)]; exact h a h1 h2 h3 ha
theorem GSt.to {g : GC} {m m1 : Mu} {ends : List End} {num : Nat} (s : GSt g m ends num) (h : To g.b m m1) : GSt g m1 ends num :=
  ⟨h.1, by rw [h.2 _ s.n1]; exact s.hw, by rw [h.2 _ s.n2]; exact s.he, s.n1, s.n2, s.n3⟩
theorem To.tg {g : GC} {m m1 : Mu} (h : To g.b m m1) : TG g m m1 := fun a h1 _ _ => h.2 a h1
theorem GSt.new {g : GC} {m : Mu} {ends : List End} {num : Nat} (s : GSt g m ends num) {l : Addr} {c : VC} (h1 : g.b ≠ l) (h2 : g.wk ≠ l) (h3 : g.en ≠ l) : GSt g (pt m l c) ends num := by
  obtain ⟨x, y, z, hb, hk⟩ := s.hb
  exact ⟨⟨x, y, z, by rw [pt_ne h1]; exact hb, hk⟩, by rw [pt_ne h2]; exact s.hw, by rw [pt_ne h3]; exact s.he, s.n1, s.n2, s.n3⟩
structure QG (g : GC) (ends : List End) (r : Nat) (m : Mu) (d : D) (m' : Mu) : Prop where
  ex : ∃ y ends' num', d = dTr y ∧ TOk y ∧ dep y ≤ r ∧ sz y ≤ nb r ∧ GSt g m' ends' num' ∧ EnOk g ends' ∧ ends'.length ≤ ends.length + nb r
  t : TG g m m'
open Classical in
theorem QG.fin {g : GC} {ends : List End} {r : Nat} {m m1 : Mu} {d : D} (s0 : DL.dm m g.b ∧ DL.dm m g.wk ∧ DL.dm m g.en) (h : TX g m m1) {y : Tr} {ends' : List End} {num' : Nat} (e : d = dTr y) (p1 : TOk y) (p2 : dep y ≤ r) (p3 : sz y ≤ nb r) (s : GSt g m1 ends' num') (p4 : EnOk g ends') (p5 : ends'.length ≤ ends.length + nb r) : FinT (QG g ends r m) m d m1 := by
  have key : ∀ a, DL.dm m a → (if DL.dm m a then m1 a else none) = m1 a := fun a ha => if_pos ha
  obtain ⟨x, w, z, hb, hk⟩ := s.hb
  refine ⟨fun a => if DL.dm m a then m1 a else none, fun a c hc => ?_, fun a ha => ?_, ⟨y, ends', num', e, p1, p2, p3, ⟨⟨x, w, z, (key _ s0.1).trans hb, hk⟩, (key _ s0.2.1).trans s.hw, (key _ s0.2.2).trans s.he, s.n1, s.n2, s.n3⟩, p4, p5⟩, fun a h1 h2 h3 => ?_⟩
  · have hc : (if DL.dm m a then m1 a else none) = some c := hc
    by_cases ha : DL.dm m a
    · rw [key a ha] at hc; exact hc
    · rw [if_neg ha] at hc; cases hc
  · show (if DL.dm m a then m1 a else none) ≠ none
    rw [key a ha]; exact h.dm s ha
  · by_cases ha : DL.dm m a
    · exact (key a ha).trans (h a h1 h2 h3 ha)
    · show (if DL.dm m a then m1 a else none) = m a
      rw [if_neg ha]
      by_cases hn : m a = none
      · exact hn.symm
      · exact absurd hn ha
structure AGn where
  (g : GC) (st : List Nat) (r : Nat) (ends : List End) (num : Nat)
structure PGn (g : GC) (st : List Nat) (r : Nat) (ends : List End) (num : Nat) (m : Mu) : Prop where
  ok : GOk g
  s : GSt g m ends num
  e : EnOk g ends
  l : ends.length + nb r ≤ 10000000
  n : st.length + r = (tiesN g.few).length
  c : ∀ x ∈ st, x < g.ws.length
  no : ∀ j, 0 < j → j < st.length → closing g.ws g.few (st.reverse.take j).reverse = none
abbrev csOf (g : GC) (st : List Nat) : Case := caseP g.few g.P st.reverse
abbrev spGrown (k : Nat) : Sp := spT (α := AGn) (fun a => [.vol a.g.b, .vol a.g.wk, dC (csOf a.g a.st), dn (a.st.headD 0)]) (fun a m => a.r < k ∧ PGn a.g a.st a.r a.ends a.num m) fun a m d m' => QG a.g a.ends a.r m d m'
theorem GOk.pt {g : GC} (h : GOk g) : PtOk g.P g.few := ⟨h.P.1, h.P.2.1⟩
theorem mvP_ok {g : GC} (h : GOk g) {t : Tie} (ht : t.1 < t.2 ∧ t.2 < g.few) : (mvT g.P t).1 < (mvT g.P t).2 ∧ (mvT g.P t).2 < g.many := by
  have h1 := h.P.2.2 _ (getD_mem (show t.1 < g.P.length by rw [h.P.2.1]; omega))
  have h2 := h.P.2.2 _ (getD_mem (show t.2 < g.P.length by rw [h.P.2.1]; omega))
  have h3 : g.P.getD t.1 0 ≠ g.P.getD t.2 0 := fun e => by have := h.pt.inj (by omega) ht.2 e; omega
  unfold mvT nrm
  constructor
  · show min _ _ < max _ _; omega
  · show max _ _ < g.many; omega
theorem mvP_inj {g : GC} (h : GOk g) {t u : Tie} (ht : t.1 < t.2 ∧ t.2 < g.few) (hu : u.1 < u.2 ∧ u.2 < g.few) (e : mvT g.P t = mvT g.P u) : t = u := by
  rcases nrm_inj e with ⟨e1, e2⟩ | ⟨e1, e2⟩
  · exact Prod.ext (h.pt.inj (by omega) (by omega) e1) (h.pt.inj (by omega) (by omega) e2)
  · have h1 := h.pt.inj (by omega) (by omega) e1
    have h2 := h.pt.inj (by omega) (by omega) e2
    omega
theorem mvP_nd {g : GC} (h : GOk g) : ((tiesN g.few).map (mvT g.P)).Nodup :=
  List.pairwise_map.mpr (List.Pairwise.imp_of_mem (fun {a b} ha hb hab e => hab (mvP_inj h (tiesN_ok ha) (tiesN_ok hb) e)) (tiesN_nd h.f5))
theorem zip_fst {α β : Type} : ∀ (L : List α) (M : List β), (L.zip M).map (·.1) = L.take M.length
  | [], _ => by simp
  | _ :: _, [] => by simp
  | x :: L, y :: M => by simp [zip_fst L M]
theorem caseP_ok {g : GC} (h : GOk g) {hs : List Nat} (hl : hs.length ≤ (tiesN g.few).length) (hc : ∀ x ∈ hs, x < g.ws.length) : CaseOk g.many g.ws.length (caseP g.few g.P hs) := by
  have hT := tiesN_len h.f5
  refine ⟨?_, fun p hp => ?_, fun p hp => ?_, ?_⟩
  · unfold caseP
    rw [zip_fst]
    exact (mvP_nd h).sublist (List.take_sublist _ _)
  · obtain ⟨t, ht, e⟩ := List.mem_map.mp (List.of_mem_zip hp).1
    rw [← e]
    exact mvP_ok h (tiesN_ok ht)
  · exact hc _ (List.of_mem_zip hp).2
  · unfold caseP
    rw [List.length_zip]
    omega
theorem caseP_len {g : GC} {hs : List Nat} (hl : hs.length ≤ (tiesN g.few).length) : (caseP g.few g.P hs).length = hs.length := by
  unfold caseP
  rw [List.length_zip, List.length_map]
  omega
/-- the next tie -/
def nxt (g : GC) (k : Nat) : Tie := mvT g.P ((tiesN g.few).getD k (0, 0))
theorem ties_get {n k : Nat} (hk : k < (tiesN n).length) : (tiesN n)[k]? = some ((tiesN n).getD k (0, 0)) := by
  rw [List.getD_eq_getElem?_getD, List.getElem?_eq_getElem hk]; rfl
theorem caseP_snoc {g : GC} {hs : List Nat} {c : Nat} (hl : hs.length < (tiesN g.few).length) : caseP g.few g.P (hs ++ [c]) = caseP g.few g.P hs ++ [(nxt g hs.length, c)] := by
  unfold caseP nxt
  have key : ∀ (L : List Tie) (hs : List Nat) (c : Nat) (t : Tie), L[hs.length]? = some t → L.zip (hs ++ [c]) = L.zip hs ++ [(t, c)] := fun L => by
    induction L with
    | nil => intro hs c t h; simp at h
    | cons x L ih =>
      intro hs c t h
      cases hs with
      | nil => simp at h; subst h; simp
      | cons y hs =>
        rw [List.length_cons, List.getElem?_cons_succ] at h
        rw [List.cons_append, List.zip_cons_cons, List.zip_cons_cons, ih hs c t h]; rfl
  exact key _ _ _ _ (by rw [List.getElem?_map, ties_get hl]; rfl)
theorem hue_old {g : GC} (h : GOk g) {hs : List Nat} (hl : hs.length ≤ (tiesN g.few).length) (hc : ∀ x ∈ hs, x < g.ws.length) {i : Nat} {t : Tie} (ht : (tiesN g.few)[i]? = some t) : decide (hueN (caseP g.few g.P hs) (g.P.getD t.1 0) (g.P.getD t.2 0) = 9) = decide (hs.length ≤ i) := by
  have tk := tiesN_ok (List.mem_of_getElem? ht)
  have hw := h.w.hi
  rw [hue_P h.pt (by omega) tk.2]
  have en : nrm t.1 t.2 = t := Prod.ext (by show min _ _ = t.1; omega) (by show max _ _ = t.2; omega)
  unfold hueN
  rw [en]
  by_cases hi : i < hs.length
  · rw [decide_eq_false (p := hs.length ≤ i) (by omega)]
    have hm : (t, hs[i]) ∈ caseN g.few hs := by
      refine List.mem_iff_getElem?.mpr ⟨i, ?_⟩
      unfold caseN
      rw [List.getElem?_zip_eq_some]
      exact ⟨ht, List.getElem?_eq_getElem hi⟩
    have nd : ((caseN g.few hs).map (·.1)).Nodup := by
      unfold caseN
      rw [zip_fst]
      exact (tiesN_nd h.f5).sublist (List.take_sublist _ _)
    rw [cget_mem nd hm]
    have := hc _ (List.getElem_mem hi)
    exact decide_eq_false (by show ¬ hs[i] = 9; omega)
  · rw [decide_eq_true (p := hs.length ≤ i) (by omega)]
    have hn : cget (caseN g.few hs) t = none := by
      unfold cget
      rw [Option.map_eq_none_iff, List.find?_eq_none]
      intro p hp q
      have e := of_decide_eq_true q
      have hp1 : p.1 ∈ (caseN g.few hs).map (·.1) := List.mem_map.mpr ⟨p, hp, rfl⟩
      unfold caseN at hp1
      rw [zip_fst, e] at hp1
      obtain ⟨j, hj, ej⟩ := List.mem_iff_getElem.mp hp1
      rw [List.length_take] at hj
      rw [List.getElem_take] at ej
      have h1 := (List.getElem?_eq_some_iff.mp ht)
      obtain ⟨h2, h3⟩ := h1
      have := (List.getElem_inj (tiesN_nd h.f5)).mp (ej.trans h3.symm)
      omega
    rw [hn]; rfl
theorem left_head {g : GC} (h : GOk g) {hs : List Nat} (hl : hs.length < (tiesN g.few).length) (hc : ∀ x ∈ hs, x < g.ws.length) : ((((tiesN g.few).map fun t => (g.P.getD t.1 0, g.P.getD t.2 0)).filter fun t : Tie => decide (hueN (caseP g.few g.P hs) t.1 t.2 = 9)).map fun t => dp (nrm t.1 t.2))[0]? = some (dp (nxt g hs.length)) := by
  have key : ∀ (L : List Tie) (k i0 : Nat) (t : Tie), L[k]? = some t → (∀ i u, L[i]? = some u → decide (hueN (caseP g.few g.P hs) (g.P.getD u.1 0) (g.P.getD u.2 0) = 9) = decide (k ≤ i)) → (((L.map fun t => (g.P.getD t.1 0, g.P.getD t.2 0)).filter fun t : Tie => decide (hueN (caseP g.few g.P hs) t.1 t.2 = 9)).map fun t => dp (nrm t.1 t.2))[0]? = some (dp (mvT g.P t)) := fun L => by
    induction L with
    | nil => intro k i0 t h; simp at h
    | cons x L ih =>
      intro k i0 t hk hp
      have h0 := hp 0 x rfl
      rw [List.map_cons, List.filter_cons]
      cases k with
      | zero =>
        simp at hk
        subst hk
        have h0 : decide (hueN (caseP g.few g.P hs) (g.P.getD x.1 0) (g.P.getD x.2 0) = 9) = true := h0
        rw [if_pos h0]
        rfl
      | succ k =>
        have h0 : decide (hueN (caseP g.few g.P hs) (g.P.getD x.1 0) (g.P.getD x.2 0) = 9) = false := h0
        rw [if_neg (by rw [h0]; decide)]
        refine ih k i0 t (by simpa using hk) fun i u hu => ?_
        rw [hp (i + 1) u (by simpa using hu)]
        exact decide_eq_decide.mpr (by omega)
  unfold nxt
  exact key _ _ 0 _ (ties_get hl) fun i u hu => hue_old h (by omega) hc hu
end Hue
namespace Hue
open PySem PySem.Spec PyProof.Rows L2 DL
/-- the evaluation of an expression that reckons alone -/
local macro_rules | `(tactic| walk_at "e") => `(tactic| first
  | (with_reducible apply ev_var); rfl
  | (with_reducible exact ev_int)
  | ((with_reducible refine ev_to ev_int ?_); rfl)
  | (with_reducible exact ev_bl)
  | (with_reducible exact ev_str)
  | (with_reducible exact ev_non)
  | (with_reducible exact eva_nil)
  | (with_reducible apply eva_cons1) <;> walk_at "e"
  | (with_reducible apply ev_tup1) <;> walk_at "e"
  | (with_reducible apply ev_add) <;> walk_at "e"
  | (with_reducible apply ev_sub) <;> walk_at "e"
  | (with_reducible apply ev_ixT) <;> walk_at "e"
  | (with_reducible apply ev_ixL) <;> (walk_at "e"; done)
  | (with_reducible apply ev_ixV) <;> walk_at "e"
  | (with_reducible apply ev_lt) <;> walk_at "e"
  | (with_reducible apply ev_le) <;> walk_at "e"
  | (with_reducible apply ev_gt) <;> walk_at "e"
  | (with_reducible apply ev_ge) <;> walk_at "e"
  | (with_reducible apply ev_eqI) <;> (walk_at "e"; done)
  | (with_reducible apply ev_neI) <;> (walk_at "e"; done)
  | (with_reducible apply ev_isN) <;> walk_at "e"
  | (with_reducible apply ev_notN) <;> walk_at "e"
  | (with_reducible apply ev_neg) <;> walk_at "e"
  | (with_reducible apply ev_min2) <;> walk_at "e"
  | (with_reducible apply ev_max2) <;> walk_at "e"
  | (with_reducible apply ev_lenT) <;> (walk_at "e"; done)
  | (with_reducible apply ev_lenL) <;> (walk_at "e"; done)
  | (with_reducible apply ev_lenV) <;> walk_at "e"
  | (with_reducible apply ev_lenD) <;> walk_at "e"
  | (with_reducible apply ev_lst1) <;> walk_at "e"
  | (with_reducible assumption)
  | (with_reducible rfl)
  | rfl
  | exact Nat.le_of_ble_eq_true rfl)
local macro_rules | `(tactic| walk_at "t") => `(tactic| first
  | (with_reducible apply evt_test1) <;> walk_at "e"
  | (with_reducible apply evt_B1) <;> walk_at "e"
  | (with_reducible apply evt_not1) <;> walk_at "t")
/-- the same, brought to the wanted form -/
local macro_rules | `(tactic| walk_at "c") => `(tactic| (refine ev_to (by walk_at "e") ?_; first | rfl | (simp only [D.int.injEq]; omega)))
theorem closing_P {g : GC} (h : GOk g) {x : Nat} {t : List Nat} (hx : x < g.ws.length) : (groupN (hueN (csOf g (x :: t))) (nWeb g.ws x) x g.P).isSome = (closing g.ws g.few (x :: t)).isSome :=
  group_P (ws := g.ws) h.pt (h.w.w _ (nWeb_mem hx))
theorem GSt.bad {g : GC} {m : Mu} {ends : List End} {num : Nat} (s : GSt g m ends num) {l : Addr} (hl : ¬ dm m l) : g.b ≠ l ∧ g.wk ≠ l ∧ g.en ≠ l := ⟨ne_dm s.hb.dm hl, ne_dm (dm_of s.hw) hl, ne_dm (dm_of s.he) hl⟩
theorem isEmpty_len {α β : Type} {l : List α} {l' : List β} (h : l.length = l'.length) : l.isEmpty = l'.isEmpty := by
  cases l <;> cases l' <;> first | rfl | (simp at h)
theorem b_grown {K : PySem.W.Frag} {k : Nat} {g : GC} {st : List Nat} {r : Nat} {ends : List End} {num : Nat} {m : Mu} (hk : r < k + 1) (p : PGn g st r ends num m) {A : List Anc} (hA : ∀ B ∈ A, B.M = dm m) :
    Wp A (start0 20 [.vol g.b, .vol g.wk, dC (csOf g st), dn (st.headD 0)]) m (t__law_grown K (spGrown k) spHue spTies spDraw spLk spGroup) (PFT (QG g ends r m) m) := by
  obtain ⟨ok, s, he, hl, hn, hc, hno⟩ := p
  have h4 := ok.w.hi
  have h1 := ok.w.lo
  have hT := tiesN_len ok.f5
  have hP := ok.P.2.1
  have hpos := nb_pos r
  have s0 : dm m g.b ∧ dm m g.wk ∧ dm m g.en := ⟨s.hb.dm, dm_of s.hw, dm_of s.he⟩
  have hcr : ∀ x ∈ st.reverse, x < g.ws.length := fun x hx => hc x (List.mem_reverse.mp hx)
  have cok := caseP_ok ok (hs := st.reverse) (by rw [List.length_reverse]; omega) hcr
  have clen : (csOf g st).length = st.length := by rw [caseP_len (by rw [List.length_reverse]; omega), List.length_reverse]
  unfold t__law_grown
  refine q_asgG (ev_six s rfl) (gd_unl (gdl_cons gd_name (gdl_cons gd_name (gdl_cons gd_name (gdl_cons gd_name (gdl_cons gd_name (gdl_cons gd_name gdl_nil))))))) ?_
  refine q_asg1 (d := dn num) (ev_ixV (i := 6) (by walk_at "e") (by walk_at "e") s.hw (atI_n (n := 6) rfl)) ?_
  refine wp_seq (wp_setL (R1 := Is (dn (num + 1)) m) (by walk_at "c") fun d m1 q => ?_)
  obtain ⟨rfl, rfl⟩ := q
  refine ⟨g.wk, wkL g num, 6, by walk_at "e", by walk_at "c", s.hw, by show 6 < 7; omega, ?_⟩
  have sA : GSt g (pt m1 g.wk (.lst ((wkL g num).set 6 (dn (num + 1))))) ends (num + 1) := by
    obtain ⟨x, y, z, hb, hbk⟩ := s.hb
    exact ⟨⟨x, y, z, by rw [pt_ne (Ne.symm s.n1)]; exact hb, hbk⟩, pt_same, by rw [pt_ne (Ne.symm s.n3)]; exact s.he, s.n1, s.n2, s.n3⟩
  have xA : TX g m1 (pt m1 g.wk (.lst ((wkL g num).set 6 (dn (num + 1))))) := fun a _ h _ _ => pt_ne h
  generalize hmA : pt m1 g.wk (.lst ((wkL g num).set 6 (dn (num + 1)))) = mA at *
  refine q_asg1 (d := .non) ev_non ?_
  refine q_asg1 (d := .non) ev_non ?_
  obtain ⟨G, hG⟩ : ∃ G : Option (List Nat), G = match st with | [] => none | x :: _ => groupN (hueN (csOf g st)) (nWeb g.ws x) x g.P := ⟨_, rfl⟩
  have hGc : G.isSome = (closing g.ws g.few st).isSome := by
    rw [hG]
    cases st with
    | nil => rfl
    | cons x t => exact closing_P ok (hc x List.mem_cons_self)
  have hGr : ∀ row, G = some row → row.length ≤ 8 := fun row e => by
    rw [hG] at e
    cases st with
    | nil => cases e
    | cons x t =>
      have e : groupN (hueN (csOf g (x :: t))) (nWeb g.ws x) x g.P = some row := e
      unfold groupN at e
      have := (rowsN_row _ row (List.mem_of_head? e)).1
      have := (ok.w.w _ (nWeb_mem (hc x List.mem_cons_self))).hi
      omega
  -- like
  refine q_cut (fun r' m' => ∃ d11 : D, r' = [some (.vol g.b), some (.vol g.wk), some (dC (csOf g st)), some (dn (st.headD 0)), some (dDm g.ws), some (dL g.P), some (dn g.many), some (.lst (g.sws.map dT)), some (.lst (g.ords.map dT)), some (.vol g.en), some (dn num), some d11, some (oT G), none, none, none, none, none, none, none] ∧ (d11 = .non ∨ G = none ∧ ∃ k ps sw, d11 = dTr (.lik k ps sw) ∧ ps.length ≤ 8 ∧ sw.length ≤ 8) ∧ To g.b mA m') (wp_ifs1 (b := !st.isEmpty) (evt_test1 (ev_to (ev_op1 (by walk_at "e") ev_dnewF (o_neDT (.inl rfl))) ?_)) (fun e => ?_) fun e => wp_next ?_) fun r' m' q => ?_
  · rw [isEmpty_map, isEmpty_len clen]
  · cases st with
    | nil => cases e
    | cons x t =>
      have hx := hc x List.mem_cons_self
      refine q_asg1 (d := oT G) ?_ ?_
      · rw [hG]
        exact ev_callP (AGroup.mk (dC (csOf g (x :: t))) (csOf g (x :: t)) (nWeb g.ws x) x g.P) (eva_cons1 (by walk_at "e") (eva_cons1 (ev_web (by walk_at "e") (by walk_at "e") hx) (by walk_at "e"))) ⟨.inl rfl, ok.w.w _ (nWeb_mem hx), by rw [hP]; exact ok.f5⟩
      · refine wp_asg (ev_if (R1 := fun b m2 => To g.b mA m2 ∧ (b = true → G = none)) (evt_and (R1 := IsB (decide (((csOf g (x :: t)).map cI).length < 3)) mA) (evt_t (ev_lt (ev_lenD (by walk_at "e")) ev_int) (decide_eq_decide.mpr (by omega))) (fun m2 q => ?_) fun m2 q => ?_) (fun m2 q => ?_) fun m2 q => ?_)
        · obtain ⟨_, rfl⟩ := q
          refine evt_and (R1 := IsB G.isNone m2) (evt_B1 (ev_to (ev_isN (by walk_at "e")) (by rw [isNon_oT]))) (fun m3 q => ?_) fun m3 q => ?_
          · obtain ⟨e, rfl⟩ := q
            refine evt_mono (evt_drawGt (n := 3) (eva_cons1 (by walk_at "e") (eva_cons1 (by walk_at "e") eva_nil)) sA.hb (by omega) (by omega)) fun b m4 q => ?_
            obtain ⟨_, _, _, h3⟩ := q
            exact ⟨h3, fun _ => by cases G with
              | none => rfl
              | some _ => cases e⟩
          · obtain ⟨_, rfl⟩ := q
            exact ⟨To.refl sA.hb, fun e => by cases e⟩
        · obtain ⟨_, rfl⟩ := q
          exact ⟨To.refl sA.hb, fun e => by cases e⟩
        · obtain ⟨h2, hGn⟩ := q
          have hGn := hGn rfl
          refine ev_callT1 (ALk.mk g (csOf g (x :: t)) ends (num + 1)) (by walk_at "e") ⟨ok, sA.to h2, he, by show ends.length ≤ _; omega⟩ fun d m3 q => ?_
          obtain ⟨q, rfl⟩ := q
          refine ⟨d, rfl, ?_, h2⟩
          rcases q with rfl | q
          · exact .inl rfl
          · exact .inr ⟨hGn, q⟩
        · obtain ⟨h2, _⟩ := q
          refine ev_mono ev_non fun d m3 q => ?_
          obtain ⟨rfl, rfl⟩ := q
          exact ⟨.non, rfl, .inl rfl, h2⟩
  · cases st with
    | nil =>
      refine ⟨.non, ?_, .inl rfl, To.refl sA.hb⟩
      rw [hG]; rfl
    | cons x t => cases e
  obtain ⟨d11, rfl, h11, hB⟩ := q
  have sB := sA.to hB
  have xB : TX g m1 m' := xA.trans sA hB.tg.x
  -- group
  refine q_cut (fun r' m'' => ∃ d11 : D, r' = [some (.vol g.b), some (.vol g.wk), some (dC (csOf g st)), some (dn (st.headD 0)), some (dDm g.ws), some (dL g.P), some (dn g.many), some (.lst (g.sws.map dT)), some (.lst (g.ords.map dT)), some (.vol g.en), some (dn num), some d11, some (oT G), none, none, none, none, none, none, none] ∧ (d11 = .non ∧ G = none ∨ ∃ y, d11 = dTr y ∧ TOk y ∧ dep y = 0 ∧ sz y = 1) ∧ m'' = m') (wp_ifs1 (b := !G.isNone) (evt_B1 (ev_to (ev_notN (by walk_at "e")) (by rw [isNon_oT]))) (fun e => ?_) fun e => wp_next ?_) fun r' m'' q => ?_
  · cases hGG : G with
    | none => rw [hGG] at e; cases e
    | some row =>
      refine wp_asg (ev_mono (ev_tup1 (ds := [.str "group", dn (st.headD 0), dT row]) (eva_cons1 ev_str (eva_cons1 (by walk_at "e") (eva_cons1 (by walk_at "e") eva_nil))) (by show 3 ≤ 1000; omega)) fun d m3 q => ?_)
      obtain ⟨rfl, rfl⟩ := q
      exact ⟨_, rfl, .inr ⟨.grp (st.headD 0) row, rfl, by unfold TOk; exact hGr row hGG, by rw [dep], by rw [sz]⟩, rfl⟩
  · refine ⟨d11, rfl, ?_, rfl⟩
    rcases h11 with rfl | ⟨hGn, k2, ps, sw, rfl, q1, q2⟩
    · cases hGG : G with
      | none => exact .inl ⟨rfl, rfl⟩
      | some row => rw [hGG] at e; cases e
    · exact .inr ⟨_, rfl, by unfold TOk; exact ⟨q1, q2⟩, by rw [dep], by rw [sz]⟩
  obtain ⟨d12, rfl, h12, rfl⟩ := q
  -- split
  refine q_cut (fun r' m3 => ∃ (y : Tr) (o13 o14 o15 o16 o17 : Option D) (ends' : List End) (num' : Nat), r' = [some (.vol g.b), some (.vol g.wk), some (dC (csOf g st)), some (dn (st.headD 0)), some (dDm g.ws), some (dL g.P), some (dn g.many), some (.lst (g.sws.map dT)), some (.lst (g.ords.map dT)), some (.vol g.en), some (dn num), some (dTr y), some (oT G), o13, o14, o15, o16, o17, none, none] ∧ TOk y ∧ dep y ≤ r ∧ sz y ≤ nb r ∧ GSt g m3 ends' num' ∧ EnOk g ends' ∧ ends'.length + 1 ≤ ends.length + nb r ∧ TX g m1 m3) ?_ fun r' m3 q => ?_
  · rcases h12 with ⟨rfl, hGn⟩ | ⟨y, rfl, y1, y2, y3⟩
    rotate_left
    · refine wp_ifs1 (b := false) (evt_B1 (ev_to (ev_isN (by walk_at "e")) (by cases y <;> rfl))) (fun q => by cases q) fun _ => wp_next ⟨y, _, _, _, _, _, ends, num + 1, rfl, y1, by omega, by omega, sB, he, by omega, xB⟩
    have hcl : closing g.ws g.few st = none := by
      rw [hGn] at hGc
      cases hq : closing g.ws g.few st with
      | none => rfl
      | some _ => rw [hq] at hGc; cases hGc
    refine wp_ifs1 (b := true) (evt_B1 (ev_to (ev_isN (by walk_at "e")) rfl)) (fun _ => ?_) fun q => by cases q
    -- there is a tie left
    obtain ⟨r, rfl⟩ : ∃ r', r = r' + 1 := by
      cases r with
      | succ r => exact ⟨r, rfl⟩
      | zero =>
        exfalso
        have hsh := naive_shut (ws := g.ws) (n := g.few) h1 ok.fr trivial (by simp) (by simp)
        obtain ⟨j, j0, jl, hj⟩ := hsh st.reverse List.nil_prefix (by rw [List.length_reverse]; omega) hcr
        rw [List.length_reverse] at jl
        by_cases hjl : j < st.length
        · rw [hno j j0 hjl] at hj; cases hj
        · have : j = st.reverse.length := by rw [List.length_reverse]; omega
          rw [this, List.take_length, List.reverse_reverse, hcl] at hj
          cases hj
    have hlt : st.reverse.length < (tiesN g.few).length := by rw [List.length_reverse]; omega
    have hnb : nb (r + 1) = 1 + 4 * nb r := rfl
    have hposr := nb_pos r
    refine q_asg1 (d := .lst (((tiesN g.few).map fun t => (g.P.getD t.1 0, g.P.getD t.2 0)).map dp)) (ev_to (ev_lcM (tiesN g.few) dp (fun t => dp (g.P.getD t.1 0, g.P.getD t.2 0)) (src_list1 (ev_callP (ATies.mk g.few) (eva_cons1 (ev_to (ev_lenL (by walk_at "e")) (by rw [List.length_map, hP])) eva_nil) (by have := ok.f5; show g.few ≤ 100; omega))) trivial (fun t ht => ⟨_, _, ?_, gd_tup (gdl_cons gd_name (gdl_cons gd_name gdl_nil)), ev_tup1 (eva_cons1 (ev_ixL (i := (t.1 : Int)) (by walk_at "e") (by walk_at "e") (dn_at ?_)) (eva_cons1 (ev_ixL (i := (t.2 : Int)) (by walk_at "e") (by walk_at "e") (dn_at ?_)) eva_nil))⟩) (by omega)) (by rw [List.map_map]; rfl)) ?_
    · simp
    · have := tiesN_ok ht; omega
    · have := tiesN_ok ht; omega
    refine q_asg1 (d := .lst ((((tiesN g.few).map fun t => (g.P.getD t.1 0, g.P.getD t.2 0)).filter fun t : Tie => decide (hueN (csOf g st) t.1 t.2 = 9)).map fun t => dp (nrm t.1 t.2))) (ev_lcT ((tiesN g.few).map fun t => (g.P.getD t.1 0, g.P.getD t.2 0)) dp (fun t => dp (nrm t.1 t.2)) (fun t => decide (hueN (csOf g st) t.1 t.2 = 9)) (src_list1 (by walk_at "e")) trivial (fun t ht => ⟨_, _, ?_, gd_tup (gdl_cons gd_name (gdl_cons gd_name gdl_nil)), evt_t (ev_eqI (ev_hue (.inl rfl) (by walk_at "e") (by walk_at "e") (by walk_at "e")) ev_int) (dec_nat _ 9), fun _ => ?_⟩) (by rw [List.length_map]; omega)) ?_
    · simp
    · rw [dp_nrm]; walk_at "e"
    have hleft := left_head ok hlt hcr
    generalize hLd : ((((tiesN g.few).map fun t => (g.P.getD t.1 0, g.P.getD t.2 0)).filter fun t : Tie => decide (hueN (csOf g st) t.1 t.2 = 9)).map fun t => dp (nrm t.1 t.2)) = Ld
    have hleft : Ld[0]? = some (dp (nxt g st.reverse.length)) := by rw [← hLd]; exact hleft
    refine q_asgV (ev_lstV eva_nil) fun l hll => ?_
    have hlm : ¬ dm m1 l := fun h => hll (xB.dm sB h)
    obtain ⟨nlb, nlw, nle⟩ := sB.bad hll
    have sC := sB.new (c := .lst []) nlb nlw nle
    have hcs1 : ∀ c, cput (csOf g st) (nxt g st.reverse.length) c = csOf g (c :: st) := fun c => by
      show _ = caseP g.few g.P (c :: st).reverse
      rw [List.reverse_cons, caseP_snoc hlt]
      refine cput_new ?_
      have ck := caseP_ok ok (hs := st.reverse ++ [0]) (by rw [List.length_append]; show _ + 1 ≤ _; omega) fun x hx => by
        rcases List.mem_append.mp hx with hx | hx
        · exact hcr x hx
        · obtain rfl := List.mem_singleton.mp hx; omega
      have nd := ck.nd
      rw [caseP_snoc hlt, List.map_append, List.nodup_append] at nd
      cases hq : cget (csOf g st) (nxt g st.reverse.length) with
      | none => rfl
      | some v =>
        exfalso
        unfold cget at hq
        obtain ⟨p, hp, _⟩ := Option.map_eq_some_iff.mp hq
        have h2 := List.find?_some hp
        have h2 := of_decide_eq_true h2
        exact nd.2.2 p.1 (List.mem_map.mpr ⟨p, List.mem_of_find?_eq_some hp, rfl⟩) _ (by simp) h2
    have cml : ∀ i, i < g.ws.length → i * nb r ≤ 3 * nb r := fun i hi => Nat.mul_le_mul_right _ (by omega)
    have cml4 : g.ws.length * nb r ≤ 4 * nb r := Nat.mul_le_mul_right _ h4
    refine q_forT (List.range g.ws.length) dn (fun i r' m3 => ∃ (ys : List Tr) (o16 o17 : Option D) (ends' : List End) (num' : Nat), r' = [some (.vol g.b), some (.vol g.wk), some (dC (csOf g st)), some (dn (st.headD 0)), some (dDm g.ws), some (dL g.P), some (dn g.many), some (.lst (g.sws.map dT)), some (.lst (g.ords.map dT)), some (.vol g.en), some (dn num), some .non, some (oT G), some (.lst (((tiesN g.few).map fun t => (g.P.getD t.1 0, g.P.getD t.2 0)).map dp)), some (.lst Ld), some (.vol l), o16, o17, none, none] ∧ m3 l = some (.lst (ys.map dTr)) ∧ ys.length = i ∧ (∀ y ∈ ys, TOk y ∧ dep y ≤ r) ∧ szs ys ≤ i * nb r ∧ GSt g m3 ends' num' ∧ EnOk g ends' ∧ ends'.length ≤ ends.length + i * nb r ∧ TX g m1 m3 ∧ ∀ a, dm (pt m'' l (.lst [])) a → dm m3 a) (src_rngN (n := g.ws.length) (eva_cons1 (ev_to (ev_lenT (by walk_at "e")) (by rw [List.length_map])) eva_nil) (by omega)) ⟨[], none, none, ends, num + 1, rfl, pt_same, rfl, by simp, by rw [szs]; omega, sC, he, by omega, xB.put hlm, fun _ h => h⟩ (fun _ _ _ _ => trivial) (fun B i a r2 m3 hB ha hj => ?_) fun r2 m3 hj => ?_
    · obtain ⟨ys, o16, o17, ends', num', rfl, hml, hyl, hyo, hys, sX, eX, lX, xX, hmono⟩ := hj
      have hi : i < g.ws.length := by have := (List.getElem?_eq_some_iff.mp ha).1; rw [List.length_range] at this; exact this
      have ea : a = i := by rw [List.getElem?_range hi] at ha; exact (Option.some.inj ha).symm
      subst ea
      have cm := cml a hi
      have esucc : (a + 1) * nb r = a * nb r + nb r := Nat.succ_mul _ _
      refine ⟨_, _, gd_name, q_asgV (ev_dcopy (.inl rfl) (by walk_at "e") (fun p hp => ?_) (.inr rfl)) fun l2 hl2 => ?_⟩
      · obtain ⟨q, hq, rfl⟩ := List.mem_map.mp hp
        have := cok.k q hq
        have := ok.m8
        exact ⟨q.1.1, q.1.2, rfl, by omega, by omega⟩
      refine wp_seq (wp_dput (k := iT (nxt g st.reverse.length)) (i := (a : Int)) (by walk_at "e") (by walk_at "e") (ev_ixL (i := 0) (d := dp (nxt g st.reverse.length)) (by walk_at "e") ev_int (atI_n (n := 0) hleft)) pt_same (by rw [List.length_map]; have := cok.l; omega) ?_)
      refine wp_freeze (i := 17) (d := dC (csOf g (a :: st))) rfl pt_same (by rw [dput_cI, hcs1]; rfl) (fun B' hB' => ?_) ?_
      · rcases List.mem_cons.mp hB' with rfl | hB'
        · rw [hB]; exact fun h => hl2 (hmono _ h)
        · rw [hA B' hB']; exact fun h => hl2 (xX.dm sX h)
      rw [pt_pt, rm_pt hl2]
      refine wp_drop (ev_append (R1 := fun d m4 => QG g ends' r m3 d m4) (by walk_at "e") hml (ev_callT1 (AGn.mk g (a :: st) r ends' num') (by walk_at "e") ⟨by show r < k; omega, ok, sX, eX, by show ends'.length + nb r ≤ _; omega, by show st.length + 1 + r = (tiesN g.few).length; omega, fun x hx => ?_, fun j j0 jl => ?_⟩ fun d m4 q => q) fun d m4 q => ?_)
      · rcases List.mem_cons.mp hx with rfl | hx
        · exact hi
        · exact hc x hx
      · have jl : j < st.length + 1 := jl
        show closing g.ws g.few (((a :: st).reverse.take j).reverse) = none
        rw [List.reverse_cons, List.take_append_of_le_length (by rw [List.length_reverse]; omega)]
        by_cases hjl : j < st.length
        · exact hno j j0 hjl
        · have : j = st.reverse.length := by rw [List.length_reverse]; omega
          rw [this, List.take_length, List.reverse_reverse]; exact hcl
      · obtain ⟨⟨y, ends2, num2, rfl, y1, y2, y3, sY, eY, lY⟩, tg⟩ := q
        have hml4 : m4 l = some (.lst (ys.map dTr)) := by rw [tg l (Ne.symm nlb) (Ne.symm nlw) (Ne.symm nle)]; exact hml
        have l8 : ys.length < 16777216 := by omega
        refine ⟨_, hml4, by rw [List.length_map]; exact l8, ys ++ [y], _, _, ends2, num2, rfl, by rw [pt_same]; simp, by rw [List.length_append, hyl]; rfl, fun z hz => ?_, by rw [szs_app, szs_one]; omega, sY.new nlb nlw nle, eY, by omega, ?_, fun b hb => dm_pt.mpr (.inr ((tg.x.dm sY (hmono b hb))))⟩
        · rcases List.mem_append.mp hz with hz | hz
          · exact hyo z hz
          · obtain rfl := List.mem_singleton.mp hz; exact ⟨y1, y2⟩
        · exact (xX.trans sX tg.x).put hlm
    · obtain ⟨ys, o16, o17, ends', num', rfl, hml, hyl, hyo, hys, sX, eX, lX, xX, hmono⟩ := hj
      rw [List.length_range] at hyl hys lX
      refine wp_asg (ev_mono (ev_tup1 (ds := [.str "split", dp (nxt g st.reverse.length), .tup (ys.map dTr)]) (eva_cons1 ev_str (eva_cons1 (ev_ixL (i := 0) (by walk_at "e") ev_int (atI_n (n := 0) hleft)) (eva_cons1 (ev_tupleV (by walk_at "e") hml) eva_nil))) (by show 3 ≤ 1000; omega)) fun d m5 q => ?_)
      obtain ⟨rfl, rfl⟩ := q
      refine ⟨.spl (nxt g st.reverse.length) ys, _, _, _, _, _, ends', num', by rw [dTr, dTrs_map]; rfl, ?_, ?_, ?_, sX, eX, by omega, xX⟩
      · unfold TOk
        exact ⟨by omega, TsOk_iff.mpr fun y hy => (hyo y hy).1⟩
      · rw [dep]
        have := deps_le fun y hy => (hyo y hy).2
        omega
      · rw [sz]; omega
  · obtain ⟨y, o13, o14, o15, o16, o17, ends', num', rfl, y1, y2, y3, sC, eC, lC, xC⟩ := q
    refine q_cut (fun r' m4 => ∃ (o13 o14 o15 o16 o17 : Option D) (ends' : List End), r' = [some (.vol g.b), some (.vol g.wk), some (dC (csOf g st)), some (dn (st.headD 0)), some (dDm g.ws), some (dL g.P), some (dn g.many), some (.lst (g.sws.map dT)), some (.lst (g.ords.map dT)), some (.vol g.en), some (dn num), some (dTr y), some (oT G), o13, o14, o15, o16, o17, none, none] ∧ GSt g m4 ends' num' ∧ EnOk g ends' ∧ ends'.length ≤ ends.length + nb r ∧ TX g m1 m4) (wp_ifs1 (evt_test1 (ev_chainB ev_int (ev_lenD (by walk_at "e")) o_lt (by walk_at "e") o_lt)) (fun _ => wp_drop ?_) fun _ => wp_next ⟨_, _, _, _, _, ends', rfl, sC, eC, by omega, xC⟩) fun r' m4 q => ?_
    · refine ev_mono (ev_append1 (d := dEn (num, csOf g st)) (by walk_at "e") sC.he (ev_tup1 (ds := [dn num, dC (csOf g st)]) (eva_cons1 (by walk_at "e") (eva_cons1 (ev_dcopy (.inl rfl) (by walk_at "e") (fun p hp => ?_) (.inl rfl)) eva_nil)) (by show 2 ≤ 1000; omega)) (by rw [List.length_map]; omega)) fun d m5 q => ?_
      · obtain ⟨q, hq, rfl⟩ := List.mem_map.mp hp
        have := cok.k q hq
        have := ok.m8
        exact ⟨q.1.1, q.1.2, rfl, by omega, by omega⟩
      · obtain ⟨rfl, rfl⟩ := q
        obtain ⟨x, y, z, hb, hbk⟩ := sC.hb
        refine ⟨_, _, _, _, _, ends' ++ [(num, csOf g st)], rfl, ⟨⟨x, y, z, by rw [pt_ne (Ne.symm sC.n2)]; exact hb, hbk⟩, by rw [pt_ne sC.n3]; exact sC.hw, by rw [pt_same]; simp, sC.n1, sC.n2, sC.n3⟩, fun e he2 => ?_, by rw [List.length_append]; exact lC, fun a h1 h2 h3 ha => by rw [pt_ne h3]; exact xC a h1 h2 h3 ha⟩
        rcases List.mem_append.mp he2 with he2 | he2
        · exact eC e he2
        · obtain rfl := List.mem_singleton.mp he2; exact cok
    · obtain ⟨o13, o14, o15, o16, o17, ends'', rfl, sD, eD, lD, xD⟩ := q
      refine wp_ret (ev_mono (ev_var rfl) fun d m5 q => ?_)
      obtain ⟨rfl, rfl⟩ := q
      show FinT _ _ _ _
      exact QG.fin s0 xD rfl y1 y2 y3 sD eD lD
end Hue
namespace Hue
open PySem PySem.Spec PyProof.Rows L2 DL
/-- the evaluation of an expression that reckons alone -/
local macro_rules | `(tactic| walk_at "e") => `(tactic| first
  | (with_reducible apply ev_var); rfl
  | (with_reducible exact ev_int)
  | ((with_reducible refine ev_to ev_int ?_); rfl)
  | (with_reducible exact ev_bl)
  | (with_reducible exact ev_str)
  | (with_reducible exact ev_non)
  | (with_reducible exact eva_nil)
  | (with_reducible apply eva_cons1) <;> walk_at "e"
  | (with_reducible apply ev_tup1) <;> walk_at "e"
  | (with_reducible apply ev_add) <;> walk_at "e"
  | (with_reducible apply ev_sub) <;> walk_at "e"
  | (with_reducible apply ev_ixT) <;> walk_at "e"
  | (with_reducible apply ev_ixL) <;> (walk_at "e"; done)
  | (with_reducible apply ev_ixV) <;> walk_at "e"
  | (with_reducible apply ev_lt) <;> walk_at "e"
  | (with_reducible apply ev_le) <;> walk_at "e"
  | (with_reducible apply ev_gt) <;> walk_at "e"
  | (with_reducible apply ev_ge) <;> walk_at "e"
  | (with_reducible apply ev_eqI) <;> (walk_at "e"; done)
  | (with_reducible apply ev_neI) <;> (walk_at "e"; done)
  | (with_reducible apply ev_isN) <;> walk_at "e"
  | (with_reducible apply ev_notN) <;> walk_at "e"
  | (with_reducible apply ev_neg) <;> walk_at "e"
  | (with_reducible apply ev_min2) <;> walk_at "e"
  | (with_reducible apply ev_max2) <;> walk_at "e"
  | (with_reducible apply ev_lenT) <;> (walk_at "e"; done)
  | (with_reducible apply ev_lenL) <;> (walk_at "e"; done)
  | (with_reducible apply ev_lenV) <;> walk_at "e"
  | (with_reducible apply ev_lenD) <;> walk_at "e"
  | (with_reducible apply ev_lst1) <;> walk_at "e"
  | (with_reducible assumption)
  | (with_reducible rfl)
  | rfl
  | exact Nat.le_of_ble_eq_true rfl)
local macro_rules | `(tactic| walk_at "t") => `(tactic| first
  | (with_reducible apply evt_test1) <;> walk_at "e"
  | (with_reducible apply evt_B1) <;> walk_at "e"
  | (with_reducible apply evt_not1) <;> walk_at "t")
/-- the same, brought to the wanted form -/
local macro_rules | `(tactic| walk_at "c") => `(tactic| (refine ev_to (by walk_at "e") ?_; first | rfl | (simp only [D.int.injEq]; omega)))
theorem nb_mono {a b : Nat} (h : a ≤ b) : nb a ≤ nb b := by
  induction h with
  | refl => exact Nat.le_refl _
  | step _ ih => exact Nat.le_trans ih (by show _ ≤ 1 + 4 * nb _; omega)
theorem ev_lstVI {r : Rho} {m : Mu} {tl : TA} {R : RR} {R1 : List D → Mu → Prop} (h : EvA r m tl R1) (hl : ∀ ds m1, R1 ds m1 → ds.length ≤ 1000 ∧ ∀ l, ¬ dm m1 l → R (.vol l) (pt m1 l (.lst ds))) : Ev r m (tLst tl) R := fun z σ H e v Q q =>
  h z σ H e v _ fun vs H1 ds m1 s a hr => by
    obtain ⟨h1, h2⟩ := hl ds m1 hr
    exact ⟨by rw [a.len]; exact Nat.le_trans h1 (by decide), fun p hp => Res.newL (q := fun w H2 d m' s' a' e' => by
      obtain ⟨l, rfl, hn, rfl⟩ := e'
      exact q w H2 (.vol l) _ (s.trans s') a' (h2 l hn)) (.refl s.vol) hp a⟩
structure ATreeL where
  (b : Addr) (ws : List Web) (few many : Nat)
structure PTreeL (b : Addr) (ws : List Web) (few many : Nat) (m : Mu) : Prop where
  hb : Bag m b
  w : DemOk ws
  f2 : 2 ≤ few
  f5 : few ≤ 5
  fm : few ≤ many
  m8 : many ≤ 8
  fr : freeB (naiveN ws few 250 1 []) = true
structure QTreeL (b : Addr) (m : Mu) (d : D) (m' : Mu) : Prop where
  q : ∃ y, d = dTr y ∧ TOk y ∧ dep y ≤ 10 ∧ sz y ≤ 1398101
  t : To b m m'
abbrev spTreeL : Sp := spT (α := ATreeL) (fun a => [.vol a.b, dDm a.ws, dn a.few, dn a.many]) (fun a m => PTreeL a.b a.ws a.few a.many m) fun a m d m' => QTreeL a.b m d m'
theorem b_lawtree {K : PySem.W.Frag} {b : Addr} {ws : List Web} {few many : Nat} {m : Mu} (h : PTreeL b ws few many m) {A : List Anc} :
    Wp A (start0 7 [.vol b, dDm ws, dn few, dn many]) m (t__law_tree K (spGrown 11) spOrders spSwaps spTurned) (PFT (QTreeL b m) m) := by
  obtain ⟨hb, hw, f2, f5, fm, m8, fr⟩ := h
  have h4 := hw.hi
  unfold t__law_tree
  refine q_asg (R := fun d m1 => ∃ P : List Nat, d = dL P ∧ (P.Nodup ∧ P.length = few ∧ ∀ x ∈ P, x < many) ∧ To b m m1) (ev_slI (R1 := fun ds m3 => ∃ M, ds = M.map dn ∧ OrdOk M many ∧ To b m m3) (ev_turned (n := many) (eva_cons1 (by walk_at "e") (eva_cons1 (by walk_at "e") eva_nil)) hb (by omega) fun M m3 hM _ h3 => ⟨_, rfl, M, rfl, hM, h3⟩) fun ds m3 q => ?_) fun d m1 q => ?_
  · obtain ⟨M, rfl, hM, h3⟩ := q
    refine ev_mono (ev_var (d := dn few) rfl) fun d m4 q => ?_
    obtain ⟨rfl, rfl⟩ := q
    refine ⟨few, rfl, M.take few, by rw [← List.map_take], ⟨hM.nd.sublist (List.take_sublist _ _), by rw [List.length_take, hM.len]; omega, fun x hx => hM.lt x (List.mem_of_mem_take hx)⟩, h3⟩
  obtain ⟨P, rfl, hP, h1⟩ := q
  refine q_asg1 (d := .lst ((swapsN ws).map dT)) (ev_callP (ASwaps.mk ws) (by walk_at "e") hw) ?_
  refine q_asg1 (d := .lst ((ordersN few).map dT)) (ev_callP (AOrders.mk few) (by walk_at "e") f5) ?_
  have sl : (swapsN ws).length ≤ 10000 := by
    have := ordN_len (n := ws.length) (by omega) ws.length
    have r6 : 5 ^ ws.length ≤ 5 ^ 5 := Nat.pow_le_pow_right (by omega) (by omega)
    have : (swapsN ws).length ≤ (ordersN ws.length).length := by unfold swapsN; exact List.length_filter_le _ _
    unfold ordersN at this
    omega
  have ol : (ordersN few).length ≤ 10000 := by
    have := ordN_len f5 few
    have r6 : 5 ^ few ≤ 5 ^ 5 := Nat.pow_le_pow_right (by omega) (by omega)
    unfold ordersN
    omega
  refine q_cut (fun r' m' => ∃ sws ords : List (List Nat), r' = [some (.vol b), some (dDm ws), some (dn few), some (dn many), some (dL P), some (.lst (sws.map dT)), some (.lst (ords.map dT))] ∧ ((∀ s ∈ sws, OrdOk s ws.length) ∧ sws.length ≤ 10000) ∧ ((∀ s ∈ ords, OrdOk s few) ∧ ords.length ≤ 10000) ∧ m' = m1) (wp_ifs1 (evt_test1 (ev_gt (ev_lenT (by walk_at "e")) ev_int)) (fun _ => ?_) fun _ => wp_next ⟨swapsN ws, ordersN few, rfl, ⟨swaps_ord, sl⟩, ⟨fun s hs => mem_orders.mp hs, ol⟩, rfl⟩) fun r' m' q => ?_
  · refine wp_par (d1 := .lst (((swapsN ws).take 3).map dT)) (d2 := .lst (((ordersN few).take 24).map dT)) (eva_cons1 (ev_to (ev_slL (by walk_at "e") evo_none (evo_some (i := ((3 : Nat) : Int)) ev_int)) (by rw [cutD_take, List.map_take])) (eva_cons1 (ev_to (ev_slL (by walk_at "e") evo_none (evo_some (i := ((24 : Nat) : Int)) ev_int)) (by rw [cutD_take, List.map_take])) eva_nil)) ⟨_, _, rfl, ⟨fun s hs => swaps_ord s (List.mem_of_mem_take hs), by rw [List.length_take]; omega⟩, ⟨fun s hs => mem_orders.mp (List.mem_of_mem_take hs), by rw [List.length_take]; omega⟩, rfl⟩
  obtain ⟨sws, ords, rfl, hsw, hor, rfl⟩ := q
  refine wp_ret (ev_callT (R1 := fun ds m2 => ∃ (wk en : Addr), ds = [.vol b, .vol wk, .dic [], dn 0] ∧ (∃ me, ¬ dm m' en ∧ ¬ dm me wk ∧ me = pt m' en (.lst []) ∧ m2 = pt me wk (.lst (wkL ⟨b, wk, en, ws, P, few, many, sws, ords⟩ 0)))) (eva_cons (R1 := Is (.vol b) m') (by walk_at "e") fun d m2 q => ?_) fun ds m2 q => ?_)
  · obtain ⟨rfl, rfl⟩ := q
    refine eva_cons (R1 := fun d m3 => ∃ (wk en : Addr), d = .vol wk ∧ (∃ me, ¬ dm m2 en ∧ ¬ dm me wk ∧ me = pt m2 en (.lst []) ∧ m3 = pt me wk (.lst (wkL ⟨b, wk, en, ws, P, few, many, sws, ords⟩ 0)))) (ev_lstVI (R1 := fun ds m3 => ∃ en, ¬ dm m2 en ∧ ds = [dDm ws, dL P, dn many, .lst (sws.map dT), .lst (ords.map dT), .vol en, dn 0] ∧ m3 = pt m2 en (.lst [])) ?_ fun ds m3 q => ?_) fun d m3 q => ?_
    · refine eva_cons (R1 := Is (dDm ws) m2) (by walk_at "e") fun d m3 q => ?_
      obtain ⟨rfl, rfl⟩ := q
      refine eva_cons (R1 := Is (dL P) m3) (by walk_at "e") fun d m4 q => ?_
      obtain ⟨rfl, rfl⟩ := q
      refine eva_cons (R1 := Is (dn many) m4) (by walk_at "e") fun d m5 q => ?_
      obtain ⟨rfl, rfl⟩ := q
      refine eva_cons (R1 := Is (.lst (sws.map dT)) m5) (by walk_at "e") fun d m6 q => ?_
      obtain ⟨rfl, rfl⟩ := q
      refine eva_cons (R1 := Is (.lst (ords.map dT)) m6) (by walk_at "e") fun d m7 q => ?_
      obtain ⟨rfl, rfl⟩ := q
      refine eva_cons (ev_lstV eva_nil) fun d m8 q => ?_
      obtain ⟨en, rfl, hen, rfl⟩ := q
      exact eva_mono (R := IsL [dn 0] _) (eva_cons1 (by walk_at "e") eva_nil) fun ds m9 q => by obtain ⟨rfl, rfl⟩ := q; exact ⟨en, hen, rfl, rfl⟩
    · obtain ⟨en, hen, rfl, rfl⟩ := q
      exact ⟨by show 7 ≤ 1000; omega, fun wk hwk => ⟨wk, en, rfl, _, hen, hwk, rfl, rfl⟩⟩
    · obtain ⟨wk, en, rfl, me, q1, q2, q3, q4⟩ := q
      exact eva_mono (R := IsL [.dic [], dn 0] _) (eva_cons1 ev_dnewF (eva_cons1 (by walk_at "e") eva_nil)) fun ds m9 q => by obtain ⟨rfl, rfl⟩ := q; exact ⟨wk, en, rfl, me, q1, q2, q3, q4⟩
  · obtain ⟨wk, en, rfl, me, hen, hwk, rfl, rfl⟩ := q
    have hwk' : ¬ dm m' wk := fun h => hwk (dm_pt.mpr (.inr h))
    have n1 : wk ≠ b := Ne.symm (ne_dm h1.1.dm hwk')
    have n2 : en ≠ b := Ne.symm (ne_dm h1.1.dm hen)
    have n3 : wk ≠ en := fun e => hwk (dm_pt.mpr (.inl e))
    have hT := tiesN_len f5
    have hnb : nb (tiesN few).length ≤ 1398101 := Nat.le_trans (nb_mono hT) (by decide)
    refine ⟨AGn.mk ⟨b, wk, en, ws, P, few, many, sws, ords⟩ [] (tiesN few).length [] 0, ?_, ⟨by show (tiesN few).length < 11; omega, ⟨hw, f2, f5, m8, hP, hsw, hor, fr⟩, ⟨?_, pt_same, ?_, n1, n2, n3⟩, fun e he => (by cases he), (by show 0 + nb (tiesN few).length ≤ 10000000; omega), (by show 0 + (tiesN few).length = (tiesN few).length; omega), fun x hx => (by cases hx), fun j _ hj => (by cases hj)⟩, fun d m9 q => ?_⟩
    · show [D.vol b, D.vol wk, .dic [], dn 0] = [D.vol b, D.vol wk, dC (caseP few P []), dn 0]
      unfold caseP
      rw [List.zip_nil_right]; rfl
    · obtain ⟨x, y, z, hbb, hk⟩ := h1.1
      exact ⟨x, y, z, by rw [pt_ne (Ne.symm n1), pt_ne (Ne.symm n2)]; exact hbb, hk⟩
    · show pt (pt m' en (.lst [])) wk _ en = _
      rw [pt_ne (Ne.symm n3)]; exact pt_same
    · obtain ⟨⟨y, ends', num', rfl, y1, y2, y3, sY, _, _⟩, tg⟩ := q
      show FinT _ _ _ _
      refine fin_to (b := b) (m1 := m9) ⟨sY.hb, fun a ha hd => ?_⟩ fun m'' h => ⟨⟨y, rfl, y1, Nat.le_trans y2 hT, Nat.le_trans y3 hnb⟩, h⟩
      have ha' := h1.dm hd
      have e1 : a ≠ wk := ne_dm ha' hwk'
      have e2 : a ≠ en := ne_dm ha' hen
      rw [tg a ha e1 e2, pt_ne e1, pt_ne e2]
      exact h1.2 a ha
end Hue
namespace Hue
open PySem PySem.Spec PyProof.Rows L2 DL
/-- the evaluation of an expression that reckons alone -/
local macro_rules | `(tactic| walk_at "e") => `(tactic| first
  | (with_reducible apply ev_var); rfl
  | (with_reducible exact ev_int)
  | ((with_reducible refine ev_to ev_int ?_); rfl)
  | (with_reducible exact ev_bl)
  | (with_reducible exact ev_str)
  | (with_reducible exact ev_non)
  | (with_reducible exact eva_nil)
  | (with_reducible apply eva_cons1) <;> walk_at "e"
  | (with_reducible apply ev_tup1) <;> walk_at "e"
  | (with_reducible apply ev_add) <;> walk_at "e"
  | (with_reducible apply ev_sub) <;> walk_at "e"
  | (with_reducible apply ev_ixT) <;> walk_at "e"
  | (with_reducible apply ev_ixL) <;> (walk_at "e"; done)
  | (with_reducible apply ev_ixV) <;> walk_at "e"
  | (with_reducible apply ev_lt) <;> walk_at "e"
  | (with_reducible apply ev_le) <;> walk_at "e"
  | (with_reducible apply ev_gt) <;> walk_at "e"
  | (with_reducible apply ev_ge) <;> walk_at "e"
  | (with_reducible apply ev_eqI) <;> (walk_at "e"; done)
  | (with_reducible apply ev_neI) <;> (walk_at "e"; done)
  | (with_reducible apply ev_isN) <;> walk_at "e"
  | (with_reducible apply ev_notN) <;> walk_at "e"
  | (with_reducible apply ev_neg) <;> walk_at "e"
  | (with_reducible apply ev_min2) <;> walk_at "e"
  | (with_reducible apply ev_max2) <;> walk_at "e"
  | (with_reducible apply ev_lenT) <;> (walk_at "e"; done)
  | (with_reducible apply ev_lenL) <;> (walk_at "e"; done)
  | (with_reducible apply ev_lenV) <;> walk_at "e"
  | (with_reducible apply ev_lenD) <;> walk_at "e"
  | (with_reducible apply ev_lst1) <;> walk_at "e"
  | (with_reducible assumption)
  | (with_reducible rfl)
  | rfl
  | exact Nat.le_of_ble_eq_true rfl)
local macro_rules | `(tactic| walk_at "t") => `(tactic| first
  | (with_reducible apply evt_test1) <;> walk_at "e"
  | (with_reducible apply evt_B1) <;> walk_at "e"
  | (with_reducible apply evt_not1) <;> walk_at "t")
/-- the same, brought to the wanted form -/
local macro_rules | `(tactic| walk_at "c") => `(tactic| (refine ev_to (by walk_at "e") ?_; first | rfl | (simp only [D.int.injEq]; omega)))
/-! the two ways to the exchanges -/
theorem orders_all : ∀ n, n ≤ 5 → ∀ L ∈ ordersN n, ∀ x, x < n → x ∈ L := fun n hn => by
  have : n = 0 ∨ n = 1 ∨ n = 2 ∨ n = 3 ∨ n = 4 ∨ n = 5 := by omega
  rcases this with rfl | rfl | rfl | rfl | rfl | rfl <;> decide +kernel
theorem OrdOk.all {L : List Nat} {n : Nat} (h : OrdOk L n) (hn : n ≤ 5) {x : Nat} (hx : x < n) : ∃ i, i < n ∧ L.getD i 0 = x := by
  obtain ⟨i, hi, e⟩ := List.mem_iff_getElem.mp (orders_all n hn L (mem_orders.mpr h) x hx)
  refine ⟨i, by rw [← h.len]; exact hi, ?_⟩
  rw [List.getD_eq_getElem?_getD, List.getElem?_eq_getElem hi]; exact e
theorem Full.ord {w v : Web} {L : List Nat} (h : Full w v L) (e : w.1 = v.1) : OrdOk L w.1 := ⟨h.p.nd, h.l, fun x hx => by rw [e]; exact h.p.lt x hx⟩
theorem nrm_comm (a b : Nat) : nrm a b = nrm b a := Prod.ext (Nat.min_comm _ _) (Nat.max_comm _ _)
theorem nrm_lt {a b : Nat} (h : a < b) : nrm a b = (a, b) := Prod.ext (by show min a b = a; omega) (by show max a b = b; omega)
theorem alike_iso {w v : Web} (hw : WebOk w) (hv : WebOk v) : alikeN w v = true ↔ Iso w v := by
  rw [alikeN_iff]
  constructor
  · rintro ⟨e, L, hL, hm⟩
    refine ⟨e, L, ⟨hL.nd, fun x hx => by rw [← e]; exact hL.lt x hx, fun i j hij hj => ?_⟩, hL.len⟩
    rw [hL.len] at hj
    have hv2 : v.2 = srt (w.2.map (mvT L)) := by rw [← hm]; rfl
    rw [hv2]
    constructor
    · intro h
      exact (srt_perm _).symm.subset (List.mem_map.mpr ⟨(i, j), h, rfl⟩)
    · intro h
      obtain ⟨t, ht, et⟩ := List.mem_map.mp ((srt_perm _).subset h)
      have := mvT_inj hL (hw.t t ht) (u := (i, j)) ⟨hij, hj⟩ et
      rw [← this]; exact ht
  · rintro ⟨e, L, hf⟩
    have hL := hf.ord e
    refine ⟨e, L, hL, ?_⟩
    have nd1 : (w.2.map (mvT L)).Nodup := by
      refine List.pairwise_map.mpr (List.Pairwise.imp_of_mem (fun {a b} ha hb hab e => ?_) hw.s)
      have := mvT_inj hL (hw.t a ha) (hw.t b hb) e
      subst this
      exact Nat.lt_irrefl _ hab
    have nd2 : v.2.Nodup := hv.s.imp fun {a b} hab e => by subst e; exact Nat.lt_irrefl _ hab
    have mem : ∀ t, t ∈ v.2 ↔ t ∈ w.2.map (mvT L) := fun t => by
      constructor
      · intro ht
        have htk := hv.t t ht
        obtain ⟨i, hi, ei⟩ := hL.all hw.hi (x := t.1) (by rw [e]; omega)
        obtain ⟨j, hj, ej⟩ := hL.all hw.hi (x := t.2) (by rw [e]; omega)
        have tn : nrm t.1 t.2 = t := nrm_lt htk.1
        have hne : i ≠ j := fun q => by subst q; omega
        rcases Nat.lt_or_gt_of_ne hne with q | q
        · refine List.mem_map.mpr ⟨(i, j), (hf.p.t i j q (by rw [hf.l]; exact hj)).mpr (by rw [ei, ej, tn]; exact ht), ?_⟩
          show nrm (L.getD i 0) (L.getD j 0) = t
          rw [ei, ej, tn]
        · refine List.mem_map.mpr ⟨(j, i), (hf.p.t j i q (by rw [hf.l]; exact hi)).mpr (by rw [ei, ej, nrm_comm, tn]; exact ht), ?_⟩
          show nrm (L.getD j 0) (L.getD i 0) = t
          rw [ei, ej, nrm_comm, tn]
      · intro ht
        obtain ⟨u, hu, rfl⟩ := List.mem_map.mp ht
        have hut := hw.t u hu
        exact (hf.p.t u.1 u.2 hut.1 (by rw [hf.l]; exact hut.2)).mp hu
    have hp : v.2.Perm (w.2.map (mvT L)) := by
      rw [List.perm_iff_count]
      intro t
      rw [nd2.count, nd1.count]
      by_cases h : t ∈ v.2
      · rw [if_pos h, if_pos ((mem t).mp h)]
      · rw [if_neg h, if_neg fun q => h ((mem t).mpr q)]
    have := srt_uniq hp (hv.s.imp fun q => Nat.le_of_lt q) fun t ht => by
      have := hv.t t ((mem t).mpr ht)
      have := hv.hi
      omega
    unfold mvW
    rw [← this, e]
theorem Iso.symm {w v : Web} (hw : WebOk w) (h : Iso w v) : Iso v w := by
  obtain ⟨e, L, hf⟩ := h
  have hL := hf.ord e
  have hinv : ∀ x, x < w.1 → L.idxOf x < w.1 ∧ L.getD (L.idxOf x) 0 = x := fun x hx => by
    have hm := orders_all w.1 hw.hi L (mem_orders.mpr hL) x hx
    have hi := List.idxOf_lt_length_of_mem hm
    refine ⟨by rw [← hL.len]; exact hi, ?_⟩
    rw [List.getD_eq_getElem?_getD, List.getElem?_eq_getElem hi]
    exact List.getElem_idxOf hi
  have hg : ∀ i, i < w.1 → ((List.range w.1).map fun x => L.idxOf x).getD i 0 = L.idxOf i := fun i hi => by
    rw [List.getD_eq_getElem?_getD, List.getElem?_map, List.getElem?_range hi]; rfl
  refine ⟨e.symm, (List.range w.1).map fun x => L.idxOf x, ⟨?_, fun x hx => ?_, fun i j hij hj => ?_⟩, by rw [List.length_map, List.length_range, e]⟩
  · refine List.pairwise_map.mpr (List.Pairwise.imp_of_mem (fun {a b} ha hb hab q => hab ?_) List.nodup_range)
    have h1 := (hinv a (List.mem_range.mp ha)).2
    have h2 := (hinv b (List.mem_range.mp hb)).2
    rw [← h1, ← h2, q]
  · obtain ⟨y, hy, rfl⟩ := List.mem_map.mp hx
    exact (hinv y (List.mem_range.mp hy)).1
  · rw [List.length_map, List.length_range] at hj
    rw [hg i (by omega), hg j hj]
    obtain ⟨a1, a2⟩ := hinv i (by omega)
    obtain ⟨b1, b2⟩ := hinv j hj
    have hne : L.idxOf i ≠ L.idxOf j := fun q => by rw [q, b2] at a2; omega
    rcases Nat.lt_or_gt_of_ne hne with q | q
    · rw [nrm_lt q, hf.p.t _ _ q (by rw [hf.l]; exact b1), a2, b2, nrm_lt hij]
    · rw [nrm_comm, nrm_lt q, hf.p.t _ _ q (by rw [hf.l]; exact a1), a2, b2, nrm_comm, nrm_lt hij]
theorem Iso.trans {w v u : Web} (h : Iso w v) (k : Iso v u) : Iso w u := by
  obtain ⟨e, L, hf⟩ := h
  obtain ⟨e2, M, hg⟩ := k
  have hL := hf.ord e
  have hM := hg.ord e2
  have hget : ∀ i, i < w.1 → (L.map fun x => M.getD x 0).getD i 0 = M.getD (L.getD i 0) 0 := fun i hi => by
    rw [List.getD_eq_getElem?_getD, List.getElem?_map, getD_of (by rw [hL.len]; exact hi)]; rfl
  have hLt : ∀ i, i < w.1 → L.getD i 0 < v.1 := fun i hi => hf.p.lt _ (getD_mem (by rw [hL.len]; exact hi))
  refine ⟨e.trans e2, L.map fun x => M.getD x 0, ⟨?_, fun x hx => ?_, fun i j hij hj => ?_⟩, by rw [List.length_map, hf.l]⟩
  · refine List.pairwise_map.mpr (List.Pairwise.imp_of_mem (fun {a b} ha hb hab q => hab ?_) hf.p.nd)
    exact hM.inj (hf.p.lt a ha) (hf.p.lt b hb) q
  · obtain ⟨y, hy, rfl⟩ := List.mem_map.mp hx
    exact hg.p.lt _ (getD_mem (by rw [hM.len]; exact hf.p.lt y hy))
  · rw [List.length_map, hL.len] at hj
    rw [hget i (by omega), hget j hj, hf.p.t i j hij (by rw [hL.len]; exact hj)]
    have l1 := hLt i (by omega)
    have l2 := hLt j hj
    have hne : L.getD i 0 ≠ L.getD j 0 := fun q => by have := hL.inj (by omega) hj q; omega
    rcases Nat.lt_or_gt_of_ne hne with q | q
    · rw [nrm_lt q, hg.p.t _ _ q (by rw [hg.l]; exact l2)]
    · rw [nrm_comm, nrm_lt q, hg.p.t _ _ q (by rw [hg.l]; exact l1), nrm_comm]
theorem Iso.refl {w : Web} (hw : WebOk w) : Iso w w := (alike_iso hw hw).mp (alikeN_refl hw)
theorem kind_iff {ws : List Web} (h : DemOk ws) {w v : Web} (hw : w ∈ ws) (hv : v ∈ ws) : kindN ws w = kindN ws v ↔ Iso w v := by
  have wok := h.w w hw
  have vok := h.w v hv
  have spec : ∀ u ∈ ws, kindN ws u < ws.length ∧ Iso (nWeb ws (kindN ws u)) u := fun u hu => by
    have hne := kind_ne h hu
    unfold kindN
    cases hF : (List.range ws.length).filter fun k => alikeN (nWeb ws k) u with
    | nil => exact absurd hF hne
    | cons k r =>
      have hk : k ∈ (List.range ws.length).filter fun k => alikeN (nWeb ws k) u := by rw [hF]; exact List.mem_cons_self
      obtain ⟨h1, h2⟩ := List.mem_filter.mp hk
      have h1 := List.mem_range.mp h1
      exact ⟨h1, (alike_iso (h.w _ (nWeb_mem h1)) (h.w u hu)).mp h2⟩
  constructor
  · intro e
    obtain ⟨a1, a2⟩ := spec w hw
    obtain ⟨b1, b2⟩ := spec v hv
    rw [e] at a2
    exact (a2.symm (h.w _ (nWeb_mem b1))).trans b2
  · intro hi
    unfold kindN
    congr 1
    apply List.filter_congr
    intro k hk
    have kok := h.w _ (nWeb_mem (List.mem_range.mp hk))
    rw [Bool.eq_iff_iff, alike_iso kok wok, alike_iso kok vok]
    exact ⟨fun q => q.trans hi, fun q => q.trans (hi.symm wok)⟩
theorem mem_exN {ws : List Web} : ∀ {i : Nat} {x : List Nat}, x ∈ exN ws i ↔ x.length = i ∧ x.Nodup ∧ ∀ k, k < i → x.getD k 0 < ws.length ∧ Iso (nWeb ws k) (nWeb ws (x.getD k 0))
  | 0, x => by
    unfold exN
    rw [List.mem_singleton]
    constructor
    · rintro rfl; exact ⟨rfl, List.nodup_nil, fun k hk => by omega⟩
    · rintro ⟨h, _⟩; exact List.length_eq_zero_iff.mp h
  | i + 1, x => by
    unfold exN
    rw [List.mem_flatMap]
    constructor
    · rintro ⟨r0, h0, h⟩
      unfold exS at h
      obtain ⟨c, hc, rfl⟩ := List.mem_map.mp h
      obtain ⟨h1, h2⟩ := List.mem_filter.mp hc
      obtain ⟨a1, a2, a3⟩ := mem_exN.mp h0
      unfold likesB at h1
      obtain ⟨h3, h4⟩ := List.mem_filter.mp h1
      refine ⟨by rw [List.length_append, a1]; rfl, ?_, fun k hk => ?_⟩
      · rw [List.nodup_append]
        refine ⟨a2, by simp, fun p hp q hq e => ?_⟩
        obtain rfl := List.mem_singleton.mp hq
        subst e
        simp at h2
        exact h2 hp
      · by_cases hki : k < i
        · rw [getD_left (by omega)]; exact a3 k hki
        · have : k = r0.length := by omega
          subst this
          rw [getD_mid]
          exact ⟨List.mem_range.mp h3, by rw [a1]; exact isoB_iff.mp h4⟩
    · rintro ⟨b, a, c⟩
      have hne : x ≠ [] := fun e => by subst e; cases b
      have e := List.dropLast_concat_getLast hne
      have dl : x.dropLast.length = i := by rw [List.length_dropLast, b]; rfl
      have hgl : ∀ k, k < i → x.dropLast.getD k 0 = x.getD k 0 := fun k hk => by
        conv => rhs; rw [← e]
        rw [getD_left (by omega)]
      have hlast : x.getD i 0 = x.getLast hne := by
        conv => lhs; rw [← e]
        rw [← dl, getD_mid]
      refine ⟨x.dropLast, mem_exN.mpr ⟨dl, a.sublist (List.dropLast_sublist x), fun k hk => by rw [hgl k hk]; exact c k (by omega)⟩, ?_⟩
      unfold exS
      have ci := c i (by omega)
      rw [hlast] at ci
      refine List.mem_map.mpr ⟨x.getLast hne, List.mem_filter.mpr ⟨?_, ?_⟩, e⟩
      · unfold likesB
        exact List.mem_filter.mpr ⟨List.mem_range.mpr ci.1, isoB_iff.mpr ci.2⟩
      · have a' := a
        rw [← e, List.nodup_append] at a'
        simp only [Bool.not_eq_true', decide_eq_false_iff_not]
        exact fun h => a'.2.2 _ h _ (by simp) rfl
theorem ex_swaps {ws : List Web} (h : DemOk ws) {x : List Nat} : x ∈ exs ws ↔ x ∈ swapsN ws := by
  unfold exs swapsN
  rw [mem_exN, List.mem_filter, decide_eq_true_iff, mem_orders]
  have key : x.length = ws.length → ((x.map fun k => kindN ws (nWeb ws k)) = ws.map (kindN ws) ↔ ∀ k, k < ws.length → kindN ws (nWeb ws (x.getD k 0)) = kindN ws (nWeb ws k)) := fun hl => by
    constructor
    · intro e k hk
      have e2 := congrArg (fun l => l[k]?) e
      simp only [List.getElem?_map] at e2
      rw [getD_of (by omega), nWeb_at hk] at e2
      exact Option.some.inj e2
    · intro e
      apply List.ext_getElem?
      intro k
      rw [List.getElem?_map, List.getElem?_map]
      by_cases hk : k < ws.length
      · rw [getD_of (by omega), nWeb_at hk]
        exact congrArg some (e k hk)
      · rw [List.getElem?_eq_none (by omega), List.getElem?_eq_none (by omega)]; rfl
  constructor
  · rintro ⟨a, b, c⟩
    refine ⟨⟨b, a, fun y hy => ?_⟩, (key a).mpr fun k hk => ?_⟩
    · obtain ⟨k, hk, e⟩ := List.mem_iff_getElem.mp hy
      have := (c k (by omega)).1
      rw [List.getD_eq_getElem?_getD, List.getElem?_eq_getElem hk] at this
      rw [← e]; exact this
    · obtain ⟨c1, c2⟩ := c k hk
      exact ((kind_iff h (nWeb_mem hk) (nWeb_mem c1)).mpr c2).symm
  · rintro ⟨o, e⟩
    have e := (key o.len).mp e
    refine ⟨o.len, o.nd, fun k hk => ?_⟩
    have hx := o.lt _ (getD_mem (show k < x.length by rw [o.len]; exact hk))
    exact ⟨hx, (kind_iff h (nWeb_mem hk) (nWeb_mem hx)).mp (e k hk).symm⟩
theorem likB_cg {n : Nat} {s s' : List (List Nat)} (h : ∀ x, x ∈ s ↔ x ∈ s') {cs : Case} {E : Es} {k : Nat} {ps sw : List Nat} : likB n s cs E k ps sw = likB n s' cs E k ps sw := by
  unfold likB
  have e : decide (sw ∈ s) = decide (sw ∈ s') := decide_eq_decide.mpr (h sw)
  rw [e]
mutual
theorem jud_cg {ws : List Web} {n : Nat} {s s' : List (List Nat)} (h : ∀ x, x ∈ s ↔ x ∈ s') : ∀ (x : Tr) (cs : Case) (E : Es), jud ws n s x cs E = jud ws n s' x cs E
  | .grp c g, cs, E => by rw [jud, jud]
  | .lik k ps sw, cs, E => by rw [jud, jud, likB_cg h]
  | .spl t ts, cs, E => by rw [jud, jud, juds_cg h ts]
theorem juds_cg {ws : List Web} {n : Nat} {s s' : List (List Nat)} (h : ∀ x, x ∈ s ↔ x ∈ s') {t : Tie} : ∀ (xs : List Tr) (c : Nat) (cs : Case) (E : Es), juds ws n s t xs c cs E = juds ws n s' t xs c cs E
  | [], c, cs, E => by rw [juds, juds]
  | x :: xs, c, cs, E => by rw [juds, juds, jud_cg h x, juds_cg h xs]
end
end Hue
namespace Hue
open PySem PySem.Spec PyProof.Rows L2 DL
/-- the evaluation of an expression that reckons alone -/
local macro_rules | `(tactic| walk_at "e") => `(tactic| first
  | (with_reducible apply ev_var); rfl
  | (with_reducible exact ev_int)
  | ((with_reducible refine ev_to ev_int ?_); rfl)
  | (with_reducible exact ev_bl)
  | (with_reducible exact ev_str)
  | (with_reducible exact ev_non)
  | (with_reducible exact eva_nil)
  | (with_reducible apply eva_cons1) <;> walk_at "e"
  | (with_reducible apply ev_tup1) <;> walk_at "e"
  | (with_reducible apply ev_add) <;> walk_at "e"
  | (with_reducible apply ev_sub) <;> walk_at "e"
  | (with_reducible apply ev_ixT) <;> walk_at "e"
  | (with_reducible apply ev_ixL) <;> (walk_at "e"; done)
  | (with_reducible apply ev_ixV) <;> walk_at "e"
  | (with_reducible apply ev_lt) <;> walk_at "e"
  | (with_reducible apply ev_le) <;> walk_at "e"
  | (with_reducible apply ev_gt) <;> walk_at "e"
  | (with_reducible apply ev_ge) <;> walk_at "e"
  | (with_reducible apply ev_eqI) <;> (walk_at "e"; done)
  | (with_reducible apply ev_neI) <;> (walk_at "e"; done)
  | (with_reducible apply ev_isN) <;> walk_at "e"
  | (with_reducible apply ev_notN) <;> walk_at "e"
  | (with_reducible apply ev_neg) <;> walk_at "e"
  | (with_reducible apply ev_min2) <;> walk_at "e"
  | (with_reducible apply ev_max2) <;> walk_at "e"
  | (with_reducible apply ev_lenT) <;> (walk_at "e"; done)
  | (with_reducible apply ev_lenL) <;> (walk_at "e"; done)
  | (with_reducible apply ev_lenV) <;> walk_at "e"
  | (with_reducible apply ev_lenD) <;> walk_at "e"
  | (with_reducible apply ev_lst1) <;> walk_at "e"
  | (with_reducible assumption)
  | (with_reducible rfl)
  | rfl
  | exact Nat.le_of_ble_eq_true rfl)
local macro_rules | `(tactic| walk_at "t") => `(tactic| first
  | (with_reducible apply evt_test1) <;> walk_at "e"
  | (with_reducible apply evt_B1) <;> walk_at "e"
  | (with_reducible apply evt_not1) <;> walk_at "t")
/-- the same, brought to the wanted form -/
local macro_rules | `(tactic| walk_at "c") => `(tactic| (refine ev_to (by walk_at "e") ?_; first | rfl | (simp only [D.int.injEq]; omega)))
def lawSrc (K : PySem.W.Frag) : TI := (iList K (tOp rCat (tSl (rSlL K) (tVar 0) tNoPart (tPart (tC (.int 4)))) (tLst (tCons (tCB (rLenS K) (tCons (tVar 0) tNil)) tNil))))
def lawBody (K : PySem.W.Frag) (S__law_is : Sp) (S_tree_holds : Sp) (S__law_judged : Sp) (S__law_swaps : Sp) (S__law_draw : Sp) (S__law_other_demand : Sp) (S__law_other_tree : Sp) (S__law_tree : Sp) (S__law_scene : Sp) (S__law_bag : Sp) : TS := (tSeq (tAsg (tCall S__law_bag [] E0 (tCons (tVar 1) tNil)) (gName 2))
  (tSeq (tAsg (tCall S__law_scene [] E0 (tCons (tVar 2) tNil)) (gTup K 3 (gCons (gName 3) (gCons (gName 4) (gCons (gName 5) gNil)))))
  (tSeq (tAsg (tCall S__law_tree [] E0 (tCons (tVar 2) (tCons (tVar 3) (tCons (tVar 4) (tCons (tVar 5) tNil))))) (gName 6))
  (tFor (iRng1 (tCons (tC (.int 5)) tNil)) (gName 7) (tSeq (tPar3 8 9 10 (tCons (tVar 3) (tCons (tVar 5) (tCons (tVar 6) tNil))))
  (tSeq (tAsg (tCall S__law_draw [] E0 (tCons (tVar 2) (tCons (tC (.int 5)) tNil))) (gName 11))
  (tSeq (tIfS (tTest (tOp rLtI (tVar 11) (tC (.int 3)))) (tAsg (tCall S__law_other_tree [] E0 (tCons (tVar 2) (tCons (tVar 6) (tCons (tVar 5) (tCons (tCB (rLenS K) (tCons (tVar 3) tNil)) tNil))))) (gName 10)) tNext)
  (tSeq (tIfS (tOr (tTest (tOp rEq (tVar 11) (tC (.int 3)))) (tTest (tOp rEq (tVar 11) (tC (.int 0))))) (tAsg (tCall S__law_other_demand [] E0 (tCons (tVar 2) (tCons (tVar 3) tNil))) (gName 8)) tNext)
  (tSeq (tIfS (tTest (tOp rEq (tVar 11) (tC (.int 4)))) (tAsg (tCB rMax2 (tCons (tC (.int 1)) (tCons (tCB rMin2 (tCons (tC (.int 8)) (tCons (tOp rAddI (tVar 5) (tOp (rIxL K) (tLst (tCons (tC (.int 1)) (tCons (tUn uNegI (tC (.int 1))) tNil))) (tCall S__law_draw [] E0 (tCons (tVar 2) (tCons (tC (.int 2)) tNil))))) tNil))) tNil))) (gName 9)) tNext)
  (tSeq (tAsg (tCall S__law_judged [] E0 (tCons (tTup (tCons (tVar 8) (tCons (tVar 9) (tCons (tCall S__law_swaps [] E0 (tCons (tVar 8) tNil)) tNil)))) (tCons (tVar 10) (tCons tDNewT (tCons (tLst tNil) tNil))))) (gName 12))
  (tFor (iRng1 (tCons (tC (.int 2)) tNil)) (gName 13) (tIfS (tNot (tB (tCall S__law_is [] E0 (tCons (tCall S_tree_holds [] E0 (tCons (tVar 8) (tCons (tVar 9) (tCons (tVar 10) tNil)))) (tCons (tVar 12) tNil))))) (tRet (tC (.bl false))) tNext))))))))))))
theorem law_eq {K : PySem.W.Frag} {S__law_is : Sp} {S_tree_holds : Sp} {S__law_judged : Sp} {S__law_swaps : Sp} {S__law_draw : Sp} {S__law_other_demand : Sp} {S__law_other_tree : Sp} {S__law_tree : Sp} {S__law_scene : Sp} {S__law_bag : Sp} : t_law K S__law_is S_tree_holds S__law_judged S__law_swaps S__law_draw S__law_other_demand S__law_other_tree S__law_tree S__law_scene S__law_bag = tSeq (tFor (lawSrc K) (gName 1) (lawBody K S__law_is S_tree_holds S__law_judged S__law_swaps S__law_draw S__law_other_demand S__law_other_tree S__law_tree S__law_scene S__law_bag)) (tRet (tC (.bl true))) := rfl
theorem b_lawBody {K : PySem.W.Frag} {wi : TI} {r0 : Rho} (hr0 : r0.length = 14) {L : List Int} {m : Mu} {A : List Anc} (hs : Src r0 m wi KT (SIs (L.map D.int) m)) :
    Wp A r0 m (tSeq (tFor wi (gName 1) (lawBody K spIs spTree (spJud 31) spSwaps spDraw spOD (spOT 31) spTreeL spScene spBag)) (tRet (tC (.bl true)))) (PFT (Is (.bl true) m) m) := by
  refine q_forT L D.int (fun i r' m' => (∃ o0 o1 o2 o3 o4 o5 o6 o7 o8 o9 o10 o11 o12 o13 : Option D, r' = [o0, o1, o2, o3, o4, o5, o6, o7, o8, o9, o10, o11, o12, o13]) ∧ Inc m m') hs ⟨?_, .refl m⟩ (fun _ _ _ _ => trivial) (fun B i c r' m' hB hc hj => ?_) fun r' m' hj => ?_
  · match r0, hr0 with
    | [o0, o1, o2, o3, o4, o5, o6, o7, o8, o9, o10, o11, o12, o13], _ => exact ⟨o0, o1, o2, o3, o4, o5, o6, o7, o8, o9, o10, o11, o12, o13, rfl⟩
  · obtain ⟨⟨o0, o1, o2, o3, o4, o5, o6, o7, o8, o9, o10, o11, o12, o13, rfl⟩, hi⟩ := hj
    refine ⟨_, _, gd_name, ?_⟩
    unfold lawBody
    refine q_asg (R := fun d m1 => ∃ b, d = .vol b ∧ ¬ dm m' b ∧ To b m' m1) (ev_callT1 (ABag.mk c) (by walk_at "e") trivial fun d m1 q => q) fun d m1 q => ?_
    obtain ⟨b, rfl, hb, h1⟩ := q
    refine wp_seq (wp_asgG (is := []) (R := fun d m2 => QScene b m1 d m2) (ev_callT1 (ANamed.mk b) (by walk_at "e") h1.1 fun d m2 q => q) fun d m2 q => ?_)
    obtain ⟨⟨ws, few, many, rfl, hw, f2, f5, fm, m8, fr⟩, h2⟩ := q
    refine ⟨_, _, gd_tup (gdl_cons gd_name (gdl_cons gd_name (gdl_cons gd_name gdl_nil))), ?_⟩
    refine q_asg (R := fun d m3 => QTreeL b m2 d m3) (ev_callT1 (ATreeL.mk b ws few many) (by walk_at "e") ⟨h2.1, hw, f2, f5, fm, m8, fr⟩ fun d m3 q => q) fun d m3 q => ?_
    obtain ⟨⟨x, rfl, x1, x2, x3⟩, h3⟩ := q
    have h3 := (h1.trans h2).trans h3
    have hw1 := hw.lo
    have hw4 := hw.hi
    refine wp_forT (List.range 5) dn (fun j r' m4 => ∃ o7 o8 o9 o10 o11 o12 o13 : Option D, r' = [o0, some (.int c), some (.vol b), some (dDm ws), some (dn few), some (dn many), some (dTr x), o7, o8, o9, o10, o11, o12, o13] ∧ ToX b m' m4) (src_rngN (n := 5) (by walk_at "e") (by omega)) ⟨_, _, _, _, _, _, _, rfl, h3.x⟩ (fun _ _ _ _ => trivial) (fun B2 j t r2 m4 hB2 ht hj => ?_) fun r2 m4 hj => ?_
    rotate_left
    · obtain ⟨o7, o8, o9, o10, o11, o12, o13, rfl, h4⟩ := hj
      refine ⟨⟨_, _, _, _, _, _, _, _, _, _, _, _, _, _, rfl⟩, fun a v hv => ?_⟩
      have hd := dm_of (hi a v hv)
      rw [h4.2 a (ne_dm hd hb) hd]
      exact hi a v hv
    obtain ⟨o7, o8, o9, o10, o11, o12, o13, rfl, h4⟩ := hj
    refine ⟨_, _, gd_name, wp_seq (wp_par3 (d1 := dDm ws) (d2 := dn many) (d3 := dTr x) (by walk_at "e") ?_)⟩
    refine q_asg (R := fun d m5 => ∃ w, d = dn w ∧ To b m4 m5) (ev_draw (n := 5) (eva_cons1 (by walk_at "e") (eva_cons1 (by walk_at "e") eva_nil)) h4.1 (by omega) (by omega) fun k m5 hk h5 => ⟨k, rfl, h5⟩) fun d m5 q => ?_
    obtain ⟨w, rfl, h5⟩ := q
    have h5 := h4.to h5
    -- the tree
    refine q_cut (fun r' m6 => ∃ y, r' = [o0, some (.int c), some (.vol b), some (dDm ws), some (dn few), some (dn many), some (dTr x), some (dn t), some (dDm ws), some (dn many), some (dTr y), some (dn w), o12, o13] ∧ TOk y ∧ dep y ≤ 21 ∧ sz y ≤ 3000000 ∧ ToX b m' m6) (wp_ifs1 (evt_test1 (ev_lt (by walk_at "e") (by walk_at "e"))) (fun _ => wp_asg ?_) fun _ => wp_next ⟨x, rfl, x1, by omega, by omega, h5⟩) fun r' m6 q => ?_
    · refine ev_callT1 (AOT.mk b x many ws.length) (eva_cons1 (by walk_at "e") (eva_cons1 (by walk_at "e") (eva_cons1 (by walk_at "e") (eva_cons1 (ev_to (ev_lenT (by walk_at "e")) (by rw [List.length_map])) eva_nil)))) ⟨by show dep x < 31; omega, h5.1, x1, by show 1 ≤ many ∧ many ≤ 8; omega, by show 1 ≤ ws.length ∧ ws.length ≤ 8; omega, by show sz x ≤ _; omega⟩ fun d m6 q => ?_
      obtain ⟨⟨z, rfl, z1, z2, z3⟩, h6⟩ := q
      have z2 : dep z ≤ 2 * dep x + 1 := z2
      have z3 : sz z ≤ 2 * sz x + 9 := z3
      exact ⟨z, rfl, z1, by omega, by omega, h5.to h6⟩
    obtain ⟨y, rfl, y1, y2, y3, h6⟩ := q
    -- the demand
    refine q_cut (fun r' m7 => ∃ vs, r' = [o0, some (.int c), some (.vol b), some (dDm ws), some (dn few), some (dn many), some (dTr x), some (dn t), some (dDm vs), some (dn many), some (dTr y), some (dn w), o12, o13] ∧ DemOk vs ∧ ToX b m' m7) (wp_ifs1 (evt_or1 (evt_test1 (ev_eqI (by walk_at "e") (by walk_at "e"))) fun _ => evt_test1 (ev_eqI (by walk_at "e") (by walk_at "e"))) (fun _ => wp_asg ?_) fun _ => wp_next ⟨ws, rfl, hw, h6⟩) fun r' m7 q => ?_
    · refine ev_callT1 (AOD.mk b ws) (by walk_at "e") ⟨h6.1, hw⟩ fun d m7 q => ?_
      obtain ⟨⟨vs, rfl, hv⟩, h7⟩ := q
      exact ⟨vs, rfl, hv, h6.to h7⟩
    obtain ⟨vs, rfl, hv, h7⟩ := q
    -- the points
    refine q_cut (fun r' m8 => ∃ n, r' = [o0, some (.int c), some (.vol b), some (dDm ws), some (dn few), some (dn many), some (dTr x), some (dn t), some (dDm vs), some (dn n), some (dTr y), some (dn w), o12, o13] ∧ n ≤ 8 ∧ ToX b m' m8) (wp_ifs1 (evt_test1 (ev_eqI (by walk_at "e") (by walk_at "e"))) (fun _ => wp_asg ?_) fun _ => wp_next ⟨many, rfl, m8, h7⟩) fun r' m8' q => ?_
    · refine ev_cb (R1 := fun ds m8 => ∃ v : Int, ds = [.int 1, .int (min 8 ((many : Int) + v))] ∧ To b m7 m8) (eva_cons (R1 := Is (.int 1) m7) ev_int fun d m8 q => ?_) fun ds m8 q => ?_
      · obtain ⟨rfl, rfl⟩ := q
        refine eva_cons (R1 := fun d m9 => ∃ v : Int, d = .int (min 8 ((many : Int) + v)) ∧ To b m8 m9) (ev_cb (R1 := fun ds m9 => ∃ v : Int, ds = [.int 8, .int ((many : Int) + v)] ∧ To b m8 m9) (eva_cons (R1 := Is (.int 8) m8) ev_int fun d m9 q => ?_) fun ds m9 q => ?_) fun d m9 q => ?_
        · obtain ⟨rfl, rfl⟩ := q
          refine eva_cons (R1 := fun d m10 => ∃ v : Int, d = .int ((many : Int) + v) ∧ To b m9 m10) (ev_op (R1 := Is (dn many) m9) (R2 := fun _ d m10 => ∃ v : Int, d = .int v ∧ To b m9 m10) (by walk_at "e") (fun d1 m10 q => ?_) fun d1 m10 d2 m11 q1 q2 => ?_) fun d m10 q => ?_
          · obtain ⟨rfl, rfl⟩ := q
            refine ev_op (R1 := Is (.lst [.int 1, .int (-1)]) m10) (R2 := fun _ d m11 => ∃ k, d = dn k ∧ k < 2 ∧ To b m10 m11) (ev_lst1 (eva_cons1 ev_int (eva_cons1 (ev_neg ev_int) eva_nil))) (fun d1 m11 q => ?_) fun d1 m11 d2 m12 q1 q2 => ?_
            · obtain ⟨rfl, rfl⟩ := q
              exact ev_draw (n := 2) (eva_cons1 (by walk_at "e") (eva_cons1 (by walk_at "e") eva_nil)) h7.1 (by omega) (by omega) fun k m12 hk h12 => ⟨k, rfl, hk, h12⟩
            · obtain ⟨rfl, rfl⟩ := q1
              obtain ⟨k, rfl, hk, ht⟩ := q2
              have : k = 0 ∨ k = 1 := by omega
              rcases this with rfl | rfl
              · exact op_mono (o_ixL (d := .int 1) (atI_n (n := 0) rfl)) fun d m13 e => ⟨1, e.1, by rw [e.2]; exact ht⟩
              · exact op_mono (o_ixL (d := .int (-1)) (atI_n (n := 1) rfl)) fun d m13 e => ⟨-1, e.1, by rw [e.2]; exact ht⟩
          · obtain ⟨rfl, rfl⟩ := q1
            obtain ⟨v, rfl, ht⟩ := q2
            exact op_mono o_add fun d m13 e => ⟨v, e.1, by rw [e.2]; exact ht⟩
          · obtain ⟨v, rfl, ht⟩ := q
            exact eva_mono eva_nil fun ds m11 e => by obtain ⟨rfl, rfl⟩ := e; exact ⟨v, rfl, ht⟩
        · obtain ⟨v, rfl, ht⟩ := q
          exact fun z H vs hv ha Q q => c_min z H vs hv ha Q fun w H2 d m' s a e => q w H2 d m' s a ⟨v, e.1, by rw [e.2]; exact ht⟩
        · obtain ⟨v, rfl, ht⟩ := q
          exact eva_mono eva_nil fun ds m11 e => by obtain ⟨rfl, rfl⟩ := e; exact ⟨v, rfl, ht⟩
      · obtain ⟨v, rfl, ht⟩ := q
        refine fun z H vs hv ha Q q => c_max z H vs hv ha Q fun w H2 d m' s a e => q w H2 d m' s a ⟨(max 1 (min 8 ((many : Int) + v))).toNat, ?_, by omega, by rw [e.2]; exact h7.to ht⟩
        rw [e.1]
        have e9 : max 1 (min 8 ((many : Int) + v)) = (((max 1 (min 8 ((many : Int) + v))).toNat : Nat) : Int) := (Int.toNat_of_nonneg (by omega)).symm
        rw [e9]; rfl
    obtain ⟨n, rfl, hn, h8⟩ := q
    have hvv : ∀ {m : Mu} {e : Addr}, m e = some (.lst (([] : Es).map dE)) → PJud vs n y [] e [] m := fun h => ⟨h, hv, hn, y1, ⟨by simp, by simp, by simp, by simp⟩, by show 0 + dep y ≤ 100; omega, (fun _ h => by cases h), by show 0 + sz y ≤ _; omega⟩
    refine q_asg (R := fun d m9 => d = .bl (jud vs n (swapsN vs) y [] []).1 ∧ ToX b m' m9) (ev_callT (R1 := fun ds m9 => ∃ e, ¬ dm m8' e ∧ ds = [scn vs n, dTr y, dC [], .vol e] ∧ m9 = pt m8' e (.lst [])) (eva_cons (R1 := Is (scn vs n) m8') (ev_tup1 (eva_cons1 (by walk_at "e") (eva_cons1 (by walk_at "e") (eva_cons1 (ev_callP (ASwaps.mk vs) (by walk_at "e") hv) eva_nil)))) fun d m9 q => ?_) fun ds m9 q => ?_) fun d m9 q => ?_
    · obtain ⟨rfl, rfl⟩ := q
      refine eva_cons (R1 := Is (dTr y) m9) (by walk_at "e") fun d m10 q => ?_
      obtain ⟨rfl, rfl⟩ := q
      refine eva_cons (R1 := Is (dC []) m10) ev_dnewF fun d m11 q => ?_
      obtain ⟨rfl, rfl⟩ := q
      refine eva_cons (ev_lstV eva_nil) fun d m12 q => ?_
      obtain ⟨e, rfl, he, rfl⟩ := q
      exact eva_mono eva_nil fun ds m13 q => by obtain ⟨rfl, rfl⟩ := q; exact ⟨e, he, rfl, rfl⟩
    · obtain ⟨e, he, rfl, rfl⟩ := q
      refine ⟨AJud.mk vs n y [] e [], rfl, ⟨by show dep y < 31; omega, hvv pt_same⟩, fun d m10 q => ?_⟩
      obtain ⟨rfl, rfl⟩ := q
      refine ⟨rfl, ?_⟩
      rw [pt_pt]
      exact h8.put (fun q => he (q ▸ h8.1.dm)) fun hd => he (h8.dm hd)
    obtain ⟨rfl, h9⟩ := q
    have hev : ∀ {r : Rho}, r[8]? = some (some (dDm vs)) → r[9]? = some (some (dn n)) → r[10]? = some (some (dTr y)) → r[12]? = some (some (.bl (jud vs n (swapsN vs) y [] []).1)) → Ev1 r m9 (tCall spIs [] E0 (tCons (tCall spTree [] E0 (tCons (tVar 8) (tCons (tVar 9) (tCons (tVar 10) tNil)))) (tCons (tVar 12) tNil))) (.bl true) := fun e1 e2 e3 e4 => by
      refine ev_to (ev_callP (AIs.mk (jud vs n (exs vs) y [] []).1 (jud vs n (swapsN vs) y [] []).1) (eva_cons1 (ev_callP (ATree.mk vs n y) (eva_cons1 (ev_var e1) (eva_cons1 (ev_var e2) (eva_cons1 (ev_var e3) eva_nil))) ⟨hv, hn, y1, by show dep y ≤ 30; omega, by show sz y ≤ _; omega⟩) (eva_cons1 (ev_var e4) eva_nil)) trivial) ?_
      show D.bl (decide (_ = _)) = _
      rw [jud_cg (s := exs vs) (s' := swapsN vs) fun x => ex_swaps hv]
      rw [decide_eq_true rfl]
    refine wp_forT (List.range 2) dn (fun i r' m10 => ∃ o13 : Option D, r' = [o0, some (.int c), some (.vol b), some (dDm ws), some (dn few), some (dn many), some (dTr x), some (dn t), some (dDm vs), some (dn n), some (dTr y), some (dn w), some (.bl (jud vs n (swapsN vs) y [] []).1), o13] ∧ m10 = m9) (src_rngN (n := 2) (by walk_at "e") (by omega)) ⟨_, rfl, rfl⟩ (fun _ _ _ _ => trivial) (fun B3 i a r3 m10 hB3 ha hj => ?_) fun r3 m10 hj => ?_
    · obtain ⟨o13, rfl, rfl⟩ := hj
      exact ⟨_, _, gd_name, wp_ifs1 (b := false) (evt_to (evt_not1 (evt_B1 (hev rfl rfl rfl rfl))) rfl) (fun q => by cases q) fun _ => wp_next ⟨_, rfl, rfl⟩⟩
    · obtain ⟨o13, rfl, rfl⟩ := hj
      exact ⟨_, _, _, _, _, _, _, rfl, h9⟩
  · obtain ⟨_, hi⟩ := hj
    refine wp_ret (ev_mono ev_bl fun d m4 q => ?_)
    obtain ⟨rfl, rfl⟩ := q
    show FinT _ _ _ _
    exact fin1 hi rfl
end Hue
namespace Hue
open PySem PySem.Spec PyProof.Rows L2 DL
/-- the law's promise: of any list of whole numbers that is only read, it tells True -/
def spLaw (K : PySem.W.Frag) : Sp := fun vs H Q _ => ∃ (a : Addr) (ns : List Int), vs = [.ref a] ∧ ns.length ≤ 63 ∧ SqL K H a (ns.map V.int) ∧ ∀ H', Q (.bl true) H'
theorem sql_new {K : PySem.W.Frag} {H : Hp} {a p : Addr} {xs : List V} {o : HO} (h : SqL K H a xs) (hp : H p = none) : SqL K (upd H p o) a xs := by
  rcases h with (h | ⟨u, h⟩) | h
  · exact .inl (.inl (by rw [upd_ne (ne_of_none h hp)]; exact h))
  · exact .inl (.inr ⟨u, by rw [upd_ne (ne_of_none h hp)]; exact h⟩)
  · exact .inr h
theorem cut_ints (ns : List Int) (lo hi : Option Int) : ∃ ks : List Int, cutV (ns.map V.int) lo hi = ks.map V.int ∧ ks.length ≤ ns.length := by
  refine ⟨(ns.drop (HT.sIx ns.length 0 lo)).take (HT.sIx ns.length ns.length hi - HT.sIx ns.length 0 lo), ?_, ?_⟩
  · unfold cutV
    rw [List.length_map, List.map_take, List.map_drop]
  · rw [List.length_take, List.length_drop]; omega
theorem env_none {M : Addr → Prop} {H : Hp} : ∀ σ : L2.St, EnvR M H (List.replicate σ.length none) σ
  | [] => rfl
  | o :: σ => ⟨o, σ, rfl, env_none σ⟩
abbrev mN : Mu := fun _ => none
abbrev zN : Zs := fun _ => none
theorem volN {H : Hp} : Vol zN mN H := ⟨fun a c q => (by cases q), fun a o q => (by cases q)⟩
theorem raw_law {K : PySem.W.Frag} (vs : List V) (H : Hp) (Q : VK) (E : XK) (h : spLaw K vs H Q E) :
    t_law K spIs spTree (spJud 31) spSwaps spDraw spOD (spOT 31) spTreeL spScene spBag { nx := fun _ H' => Q .non H', rt := Q } (L2.start ["_law_script", "_law_cell", "_law_bag_here", "_law_demand_here", "_law_few", "_law_many", "_law_tree_here", "_law_turn", "_law_webs", "_law_most", "_law_thing", "_law_way", "_law_due", "_law_again"] vs) H := by
  obtain ⟨a, ns, rfl, hl, hS, hQ⟩ := h
  rw [law_eq]
  generalize hσ : L2.start ["_law_script", "_law_cell", "_law_bag_here", "_law_demand_here", "_law_few", "_law_many", "_law_tree_here", "_law_turn", "_law_webs", "_law_most", "_law_thing", "_law_way", "_law_due", "_law_again"] [V.ref a] = σ0
  have l14 : σ0.length = 14 := by rw [← hσ]; rfl
  have h0 : σ0[0]? = some (some (V.ref a)) := by rw [← hσ]; rfl
  obtain ⟨ks, ek, lk⟩ := cut_ints ns none (some 4)
  have hs : Src (List.replicate 14 none) mN (fun σ H' R => σ = σ0 → H' = H → lawSrc K σ H' R) KT (SIs ((ks ++ [(ns.length : Int)]).map D.int) mN) := by
    rintro z σ H' e v R q rfl rfl
    refine ⟨V.ref a, h0, (4 : Int), rfl, a, ns.map V.int, rfl, hS, fun p hp => ?_⟩
    rw [ek]
    have s1 : Stp z mN H' mN (upd H' p (.lst (ks.map V.int))) := .new v hp
    refine ⟨V.ref a, h0, a, ns.map V.int, rfl, .inl (sql_new hS hp), ?_⟩
    refine ⟨show 1 ≤ sizeLine by decide, fun p2 hp2 => ?_⟩
    have s2 : Stp z mN _ mN (upd (upd H' p (.lst (ks.map V.int))) p2 (.lst [V.int ((ns.map V.int).length : Nat)])) := .new s1.vol hp2
    refine ⟨p, p2, ks.map V.int, [V.int ((ns.map V.int).length : Nat)], rfl, rfl, ?_, upd_same, ?_, fun p3 hp3 => ?_⟩
    · rw [upd_ne (fun e => by rw [← e, upd_same] at hp2; cases hp2), upd_same]
    · rw [List.length_map]; show ks.length + 1 ≤ sizeLine; exact Nat.le_trans (show ks.length + 1 ≤ 64 by omega) (by decide)
    have s3 : Stp z mN _ mN (upd (upd (upd H' p (.lst (ks.map V.int))) p2 (.lst [V.int ((ns.map V.int).length : Nat)])) p3 (.lst (ks.map V.int ++ [V.int ((ns.map V.int).length : Nat)]))) := .new s2.vol hp3
    refine ⟨p3, rfl, ⟨_, .inl (.inl upd_same)⟩, q _ _ mN _ ((s1.trans s2).trans s3) ⟨rfl, rfl⟩ (yld_list (s2.vol.fresh hp3) upd_same ?_)⟩
    have ei : ks.map V.int ++ [V.int ((ns.map V.int).length : Nat)] = (ks ++ [(ns.length : Int)]).map V.int := by
      rw [List.map_append, List.length_map]; rfl
    rw [ei]
    exact mk_ints
  have ho : OkA [] (List.replicate 14 none) zN mN σ0 H := ⟨by rw [← l14]; exact env_none σ0, volN, fun B hB => absurd hB List.not_mem_nil⟩
  have key := b_lawBody (K := K) (A := []) (m := mN) (r0 := List.replicate 14 none) rfl hs zN σ0 H ho { nx := fun _ H' => Q .non H', rt := Q }
    ⟨fun r m σ H' _ p => (by
      obtain ⟨_, _, _, e, _⟩ := (show FinT _ _ _ _ from p).ex
      cases e), fun v H' d m _ _ ad p => (by
      obtain ⟨_, _, _, e, _⟩ := (show FinT _ _ _ _ from p).ex
      cases e
      rw [show v = V.bl true from by unfold At at ad; exact ad]
      exact hQ H'), fun _ _ _ _ _ q => False.elim q, fun _ _ _ _ _ q => False.elim q⟩
  exact key rfl rfl
end Hue
namespace Hue
open PySem PySem.Spec PyProof.Rows L2 DL
abbrev n_may_go : List Str := ["one", "other", "way", "point", "just", "elder", "there", "tied", "come"]
theorem sc_may_go : FnScope n_may_go ["one", "other", "way", "point", "just"] (defScope (top 1)) := ⟨rfl, rfl, rfl, by decide +kernel, rfl, by decide +kernel, by decide +kernel⟩
theorem w_may_go {P : Program} {w : World} {K : PySem.W.Frag} {mg : Str → Option Value} {base : Heap} {f : Addr} {cdv : Value} {A : Around} {outer : List Env} {s : Shared} {H : Hp} {E : XK} {k : Nat} (hr : Room k (A.deeper (envOfC "may_go" (defScope (top 1)) s.heap.objs.size f cdv))) (B : Blt mg) :
    PSs (cxOf CX0 P w K mg base n_may_go "may_go" (defScope (top 1)) f cdv A outer s H E).nox (defBody (top 1)) (t_may_go K) :=
  (pss_cons (ps_if (pt_cmpR op_in_seq (pv 3) (pv 2) (by rfl)) (pss_one (ps_ret pe_bl)) pss_nil)
  (pss_cons (ps_for PassesOwn.never rfl (pi_enumT (by rfl) B.enumerate (pa_cons (pv 2) pa_nil)) (pg_tup rfl (pgs_cons (pg_name (i := 5) sc_may_go.nd rfl (by first | exact Or.inl rfl | exact Or.inr rfl)) (pgs_cons (pg_name (i := 6) sc_may_go.nd rfl (by first | exact Or.inl rfl | exact Or.inr rfl)) pgs_nil))) (pss_cons (ps_set (i := 7) sc_may_go.nd rfl (by first | exact Or.inl rfl | exact Or.inr rfl) (pe_cmpR (op_inDT (hu65 hr)) (pe_tup (pa_cons (pv 5) (pa_cons (pe_callB call_len_seq (by rfl) B.len PySem.boot_len (pa_cons (pv 2) pa_nil)) pa_nil))) (pe_ix ix_tup (pv 0) pe_int (fun _ _ => rfl)) (by rfl)))
  (pss_cons (ps_set (i := 8) sc_may_go.nd rfl (by first | exact Or.inl rfl | exact Or.inr rfl) (pe_cmpR (op_inDT (hu65 hr)) (pe_tup (pa_cons (pe_callB (call_min2 rfl) (by rfl) B.min (by decide +kernel) (pa_cons (pv 6) (pa_cons (pv 3) pa_nil))) (pa_cons (pe_callB (call_max2 rfl) (by rfl) B.max (by decide +kernel) (pa_cons (pv 6) (pa_cons (pv 3) pa_nil))) pa_nil))) (pe_ix ix_tup (pv 1) pe_int (fun _ _ => rfl)) (by rfl)))
  (pss_one (ps_if (PW.pt (pw_or (PW.pt (pw_and (pt_val (pv 7)) (pw_and1 (pt_not (pt_val (pv 8)))))) (pw_or1 (PW.pt (pw_and (pt_val (pv 4)) (pw_and (pt_val (pv 8)) (pw_and1 (pt_not (pt_val (pv 7)))))))))) (pss_one (ps_ret pe_bl)) pss_nil)))))
  (pss_one (ps_ret pe_bl))))
end Hue
namespace Hue
open PySem PySem.Spec PyProof.Rows L2 DL
abbrev n_longer_ways : List Str := ["one", "other", "way", "just", "point"]
theorem sc_longer_ways : FnScope n_longer_ways ["one", "other", "way", "just"] (defScope (top 2)) := ⟨rfl, rfl, rfl, by decide +kernel, rfl, by decide +kernel, by decide +kernel⟩
theorem w_longer_ways {P : Program} {w : World} {K : PySem.W.Frag} {mg : Str → Option Value} {base : Heap} {f : Addr} {cdv : Value} {A : Around} {outer : List Env} {s : Shared} {H : Hp} {E : XK} {k : Nat} (hr : Room k (A.deeper (envOfC "longer_ways" (defScope (top 2)) s.heap.objs.size f cdv))) (B : Blt mg) {S_may_go : Sp} (D_may_go : Df P w K mg base k "may_go" ["one", "other", "way", "point", "just"] S_may_go) :
    PSs (cxOf CX0 P w K mg base n_longer_ways "longer_ways" (defScope (top 2)) f cdv A outer s H E).nox (defBody (top 2)) (t_longer_ways K S_may_go) :=
  (pss_one (ps_ret (pe_lc (own := [("point", 4)]) rfl sc_longer_ways.nd (pi_range1 (by rfl) B.range (pa_cons (pe_ix ix_tup (pv 1) pe_int (fun _ _ => rfl)) pa_nil)) (blkOk_by (own := [("point", 4)]) (N := n_longer_ways) (sc := (defScope (top 2))) (by decide +kernel)) (fun _ _ _ _ _ => (pg_name (i := 4) sc_longer_ways.nd rfl (by first | exact Or.inl rfl | exact Or.inr rfl))) (fun _ _ _ _ _ => (pts_one (pt_val (pe_df D_may_go hr rfl (pa_cons (pv 0) (pa_cons (pv 1) (pa_cons (pv 2) (pa_cons (pv 4) (pa_cons (pv 3) pa_nil))))))))) (fun _ _ _ _ _ => (pe_op op_catA (pv 2) (pe_tup (pa_cons (pv 4) pa_nil)))))))
end Hue
namespace Hue
open PySem PySem.Spec PyProof.Rows L2 DL
abbrev n_first_way : List Str := ["one", "other", "just", "waiting", "way"]
theorem sc_first_way : FnScope n_first_way ["one", "other", "just"] (defScope (top 3)) := ⟨rfl, rfl, rfl, by decide +kernel, rfl, by decide +kernel, by decide +kernel⟩
theorem w_first_way {P : Program} {w : World} {K : PySem.W.Frag} {mg : Str → Option Value} {base : Heap} {f : Addr} {cdv : Value} {A : Around} {outer : List Env} {s : Shared} {H : Hp} {E : XK} {k : Nat} (hr : Room k (A.deeper (envOfC "first_way" (defScope (top 3)) s.heap.objs.size f cdv))) (B : Blt mg) {S_longer_ways : Sp} (D_longer_ways : Df P w K mg base k "longer_ways" ["one", "other", "way", "just"] S_longer_ways) :
    PSs (cxOf CX0 P w K mg base n_first_way "first_way" (defScope (top 3)) f cdv A outer s H E).nox (defBody (top 3)) (t_first_way K S_longer_ways) :=
  (pss_cons (ps_set (i := 3) sc_first_way.nd rfl (by first | exact Or.inl rfl | exact Or.inr rfl) (pe_lst (pa_cons (pe_tup pa_nil) pa_nil)))
  (pss_cons (ps_while PassesOwn.never (pt_cmpR (op_neD (hu64 hr)) (pv 3) (pe_lst pa_nil) (nomark _)) (pss_cons (ps_set (i := 4) sc_first_way.nd rfl (by first | exact Or.inl rfl | exact Or.inr rfl) (pe_bm0 PySem.F.plainAttrs_list PySem.F.slot_list_pop PySem.F.type_list_pop mt_pop (pv 3)))
  (pss_cons (ps_if (pt_cmpR op_eq (pe_callB call_len_seq (by rfl) B.len PySem.boot_len (pa_cons (pv 4) pa_nil)) (pe_ix ix_tup (pv 0) pe_int (fun _ _ => rfl)) (nomark _)) (pss_one (ps_ret (pv 4))) pss_nil)
  (pss_one (ps_expr (pe_bm PySem.F.plainAttrs_list PySem.F.slot_list_extend PySem.F.type_list_extend mt_extend (pv 3) (pa_cons (pe_revL (pe_df D_longer_ways hr rfl (pa_cons (pv 0) (pa_cons (pv 1) (pa_cons (pv 4) (pa_cons (pv 2) pa_nil)))))) pa_nil)))))))
  (pss_one (ps_ret pe_non))))
end Hue
namespace Hue
open PySem PySem.Spec PyProof.Rows L2 DL
abbrev n_like_way : List Str := ["one", "other"]
theorem sc_like_way : FnScope n_like_way ["one", "other"] (defScope (top 4)) := ⟨rfl, rfl, rfl, by decide +kernel, rfl, by decide +kernel, by decide +kernel⟩
theorem w_like_way {P : Program} {w : World} {K : PySem.W.Frag} {mg : Str → Option Value} {base : Heap} {f : Addr} {cdv : Value} {A : Around} {outer : List Env} {s : Shared} {H : Hp} {E : XK} {k : Nat} (hr : Room k (A.deeper (envOfC "like_way" (defScope (top 4)) s.heap.objs.size f cdv))) (B : Blt mg) {S_first_way : Sp} (D_first_way : Df P w K mg base k "first_way" ["one", "other", "just"] S_first_way) :
    PSs (cxOf CX0 P w K mg base n_like_way "like_way" (defScope (top 4)) f cdv A outer s H E).nox (defBody (top 4)) (t_like_way K S_first_way) :=
  (pss_cons (ps_if (pt_cmpR op_ne (pe_ix ix_tup (pv 0) pe_int (fun _ _ => rfl)) (pe_ix ix_tup (pv 1) pe_int (fun _ _ => rfl)) (nomark _)) (pss_one (ps_ret pe_non)) pss_nil)
  (pss_one (ps_ret (pe_df D_first_way hr rfl (pa_cons (pv 0) (pa_cons (pv 1) (pa_cons pe_bl pa_nil)))))))
end Hue
namespace Hue
open PySem PySem.Spec PyProof.Rows L2 DL
abbrev n_exchanges_of : List Str := ["demand", "found", "web", "likes", "colour", "other", "row"]
theorem sc_exchanges_of : FnScope n_exchanges_of ["demand"] (defScope (top 6)) := ⟨rfl, rfl, rfl, by decide +kernel, rfl, by decide +kernel, by decide +kernel⟩
theorem w_exchanges_of {P : Program} {w : World} {K : PySem.W.Frag} {mg : Str → Option Value} {base : Heap} {f : Addr} {cdv : Value} {A : Around} {outer : List Env} {s : Shared} {H : Hp} {E : XK} {k : Nat} (hr : Room k (A.deeper (envOfC "exchanges_of" (defScope (top 6)) s.heap.objs.size f cdv))) (B : Blt mg) {S_like_way : Sp} (D_like_way : Df P w K mg base k "like_way" ["one", "other"] S_like_way) :
    PSs (cxOf CX0 P w K mg base n_exchanges_of "exchanges_of" (defScope (top 6)) f cdv A outer s H E).nox (defBody (top 6)) (t_exchanges_of K S_like_way) :=
  (pss_cons (ps_set (i := 1) sc_exchanges_of.nd rfl (by first | exact Or.inl rfl | exact Or.inr rfl) (pe_lst (pa_cons (pe_tup pa_nil) pa_nil)))
  (pss_cons (ps_for PassesOwn.never rfl (pi_tup (pv 0)) (pg_name (i := 2) sc_exchanges_of.nd rfl (by first | exact Or.inl rfl | exact Or.inr rfl)) (pss_cons (ps_set (i := 3) sc_exchanges_of.nd rfl (by first | exact Or.inl rfl | exact Or.inr rfl) (pe_lc (own := [("colour", 4), ("other", 5)]) rfl sc_exchanges_of.nd (pi_enumT (by rfl) B.enumerate (pa_cons (pv 0) pa_nil)) (blkOk_by (own := [("colour", 4), ("other", 5)]) (N := n_exchanges_of) (sc := (defScope (top 6))) (by decide +kernel)) (fun _ _ _ _ _ => (pg_tup rfl (pgs_cons (pg_name (i := 4) sc_exchanges_of.nd rfl (by first | exact Or.inl rfl | exact Or.inr rfl)) (pgs_cons (pg_name (i := 5) sc_exchanges_of.nd rfl (by first | exact Or.inl rfl | exact Or.inr rfl)) pgs_nil)))) (fun _ _ _ _ _ => (pts_one (pt_cmp (pc_notN (pe_df D_like_way hr rfl (pa_cons (pv 2) (pa_cons (pv 5) pa_nil)))) rfl))) (fun _ _ _ _ _ => (pv 4))) (by rfl))
  (pss_one (ps_setLc2 (i := 1) (own := [("row", 6), ("colour", 4)]) (vs1 := [4]) rfl sc_exchanges_of.nd rfl rfl (sw_true rfl rfl rfl (by decide +kernel)) (pi_list (pv 1)) (blkOk_by (own := [("row", 6), ("colour", 4)]) (N := n_exchanges_of) (sc := (defScope (top 6))) (by decide +kernel)) (by decide) (fun _ _ _ _ _ => (pg_name (i := 6) sc_exchanges_of.nd rfl (by first | exact Or.inl rfl | exact Or.inr rfl))) (fun _ _ _ _ _ => pts_nil) (fun _ _ _ _ _ => (pi_list (pv 3))) (fun _ _ _ _ _ => (pg_name (i := 4) sc_exchanges_of.nd rfl (by first | exact Or.inl rfl | exact Or.inr rfl))) (fun _ _ _ _ _ => (pts_one (pt_cmpR op_notIn_seq (pv 4) (pv 6) (by rfl)))) (fun _ _ _ _ _ => (pe_op op_catA (pv 6) (pe_tup (pa_cons (pv 4) pa_nil))))))))
  (pss_one (ps_ret (pv 1)))))
end Hue
namespace Hue
open PySem PySem.Spec PyProof.Rows L2 DL
abbrev n_tie_between : List Str := ["a", "b"]
theorem sc_tie_between : FnScope n_tie_between ["a", "b"] (defScope (top 8)) := ⟨rfl, rfl, rfl, by decide +kernel, rfl, by decide +kernel, by decide +kernel⟩
theorem w_tie_between {P : Program} {w : World} {K : PySem.W.Frag} {mg : Str → Option Value} {base : Heap} {f : Addr} {cdv : Value} {A : Around} {outer : List Env} {s : Shared} {H : Hp} {E : XK} {k : Nat} (hr : Room k (A.deeper (envOfC "tie_between" (defScope (top 8)) s.heap.objs.size f cdv))) (B : Blt mg) :
    PSs (cxOf CX0 P w K mg base n_tie_between "tie_between" (defScope (top 8)) f cdv A outer s H E).nox (defBody (top 8)) (t_tie_between K) :=
  (pss_one (ps_ret (pe_tup (pa_cons (pe_callB (call_min2 rfl) (by rfl) B.min (by decide +kernel) (pa_cons (pv 0) (pa_cons (pv 1) pa_nil))) (pa_cons (pe_callB (call_max2 rfl) (by rfl) B.max (by decide +kernel) (pa_cons (pv 0) (pa_cons (pv 1) pa_nil))) pa_nil)))))
end Hue
namespace Hue
open PySem PySem.Spec PyProof.Rows L2 DL
abbrev n_is_whole : List Str := ["thing"]
theorem sc_is_whole : FnScope n_is_whole ["thing"] (defScope (top 9)) := ⟨rfl, rfl, rfl, by decide +kernel, rfl, by decide +kernel, by decide +kernel⟩
theorem w_is_whole {P : Program} {w : World} {K : PySem.W.Frag} {mg : Str → Option Value} {base : Heap} {f : Addr} {cdv : Value} {A : Around} {outer : List Env} {s : Shared} {H : Hp} {E : XK} {k : Nat} (hr : Room k (A.deeper (envOfC "is_whole" (defScope (top 9)) s.heap.objs.size f cdv))) (B : Blt mg) :
    PSs (cxOf CX0 P w K mg base n_is_whole "is_whole" (defScope (top 9)) f cdv A outer s H E).nox (defBody (top 9)) (t_is_whole K) :=
  (pss_one (ps_ret (pe_and (pe_callB call_isi (by rfl) B.isinstance (by decide +kernel) (pa_cons (pv 0) (pa_cons (pe_bltn (v := .ty "int") (by rfl) B.int (by decide +kernel) rfl) pa_nil))) (pe_one (pe_not (pe_callB call_isi (by rfl) B.isinstance (by decide +kernel) (pa_cons (pv 0) (pa_cons (pe_bltn (v := .ty "bool") (by rfl) B.bool (by decide +kernel) rfl) pa_nil))))))))
end Hue
namespace Hue
open PySem PySem.Spec PyProof.Rows L2 DL
abbrev n_are_points : List Str := ["many", "thing", "point"]
theorem sc_are_points : FnScope n_are_points ["many", "thing"] (defScope (top 10)) := ⟨rfl, rfl, rfl, by decide +kernel, rfl, by decide +kernel, by decide +kernel⟩
theorem w_are_points {P : Program} {w : World} {K : PySem.W.Frag} {mg : Str → Option Value} {base : Heap} {f : Addr} {cdv : Value} {A : Around} {outer : List Env} {s : Shared} {H : Hp} {E : XK} {k : Nat} (hr : Room k (A.deeper (envOfC "are_points" (defScope (top 10)) s.heap.objs.size f cdv))) (B : Blt mg) {S_is_whole : Sp} (D_is_whole : Df P w K mg base k "is_whole" ["thing"] S_is_whole) :
    PSs (cxOf CX0 P w K mg base n_are_points "are_points" (defScope (top 10)) f cdv A outer s H E).nox (defBody (top 10)) (t_are_points K S_is_whole) :=
  (pss_cons (ps_if (PW.pt (pw_or (pt_not (pt_val (pe_callB call_isi (by rfl) B.isinstance (by decide +kernel) (pa_cons (pv 1) (pa_cons (pe_bltn (v := .ty "tuple") (by rfl) B.tuple (by decide +kernel) rfl) pa_nil))))) (pw_or1 (pt_not (pt_val (pe_callB (cr_all rfl) (by rfl) B.all (by decide +kernel) (pa_cons (pe_lc (own := [("point", 2)]) rfl sc_are_points.nd (pi_tup (pv 1)) (blkOk_by (own := [("point", 2)]) (N := n_are_points) (sc := (defScope (top 10))) (by decide +kernel)) (fun _ _ _ _ _ => (pg_name (i := 2) sc_are_points.nd rfl (by first | exact Or.inl rfl | exact Or.inr rfl))) (fun _ _ _ _ _ => pts_nil) (fun _ _ _ _ _ => (pe_and (pe_df D_is_whole hr rfl (pa_cons (pv 2) pa_nil)) (pe_one (pe_chain op_le op_lt pe_int (pv 2) (pv 0)))))) pa_nil))))))) (pss_one (ps_ret pe_bl)) pss_nil)
  (pss_one (ps_ret (pe_cmpR op_eq (pe_lenSetT rfl B.len rfl B.set (pv 1)) (pe_callB call_len_seq (by rfl) B.len PySem.boot_len (pa_cons (pv 1) pa_nil)) (nomark _)))))
end Hue
namespace Hue
open PySem PySem.Spec PyProof.Rows L2 DL
abbrev n_is_group : List Str := ["case", "web", "colour", "points", "a", "b"]
theorem sc_is_group : FnScope n_is_group ["case", "web", "colour", "points"] (defScope (top 11)) := ⟨rfl, rfl, rfl, by decide +kernel, rfl, by decide +kernel, by decide +kernel⟩
theorem w_is_group {P : Program} {w : World} {K : PySem.W.Frag} {mg : Str → Option Value} {base : Heap} {f : Addr} {cdv : Value} {A : Around} {outer : List Env} {s : Shared} {H : Hp} {E : XK} {k : Nat} (hr : Room k (A.deeper (envOfC "is_group" (defScope (top 11)) s.heap.objs.size f cdv))) (B : Blt mg) {S_tie_between : Sp} (D_tie_between : Df P w K mg base k "tie_between" ["a", "b"] S_tie_between) :
    PSs (cxOf CX0 P w K mg base n_is_group "is_group" (defScope (top 11)) f cdv A outer s H E).nox (defBody (top 11)) (t_is_group K S_tie_between) :=
  (pss_one (ps_ret (pe_callB (cr_all rfl) (by rfl) B.all (by decide +kernel) (pa_cons (pe_lc (own := [("a", 4), ("b", 5)]) rfl sc_is_group.nd (pi_tup (pe_ix ix_tup (pv 1) pe_int (fun _ _ => rfl))) (blkOk_by (own := [("a", 4), ("b", 5)]) (N := n_is_group) (sc := (defScope (top 11))) (by decide +kernel)) (fun _ _ _ _ _ => (pg_tup rfl (pgs_cons (pg_name (i := 4) sc_is_group.nd rfl (by first | exact Or.inl rfl | exact Or.inr rfl)) (pgs_cons (pg_name (i := 5) sc_is_group.nd rfl (by first | exact Or.inl rfl | exact Or.inr rfl)) pgs_nil)))) (fun _ _ _ _ _ => pts_nil) (fun _ _ _ _ _ => (pe_cmpR op_eq (pe_dget1 (hu_of hr) (pv 0) (pe_df D_tie_between hr rfl (pa_cons (pe_ix ix_tup (pv 3) (pv 4) (fun _ _ => rfl)) (pa_cons (pe_ix ix_tup (pv 3) (pv 5) (fun _ _ => rfl)) pa_nil))) ⟨rfl, rfl, rfl, rfl⟩) (pv 2) (nomark _)))) pa_nil))))
end Hue
namespace Hue
open PySem PySem.Spec PyProof.Rows L2 DL
abbrev n___init__ : List Str := ["self", "demand", "many"]
theorem sc___init__ : FnScope n___init__ ["self", "demand", "many"] (defScope (inClass (top 13) 0)) := ⟨rfl, rfl, rfl, by decide +kernel, rfl, by decide +kernel, by decide +kernel⟩
theorem w___init__ {P : Program} {w : World} {K : PySem.W.Frag} {mg : Str → Option Value} {base : Heap} {C : Addr} {f : Addr} {cdv : Value} {A : Around} {outer : List Env} {s : Shared} {H : Hp} {E : XK} {k : Nat} (hr : Room k (A.deeper (envOfC "Judge.__init__" (defScope (inClass (top 13) 0)) s.heap.objs.size f cdv))) (B : Blt mg) (T : Jdg K mg C) {S_exchanges_of : Sp} (D_exchanges_of : Df P w K mg base k "exchanges_of" ["demand"] S_exchanges_of) :
    PSs (cxOf CX0 P w K mg base n___init__ "Judge.__init__" (defScope (inClass (top 13) 0)) f cdv A outer s H E).nox (defBody (inClass (top 13) 0)) (t___init__ K C S_exchanges_of) :=
  (pss_cons (ps_fld (pv 0) (pv 1) rfl)
  (pss_cons (ps_fld (pv 0) (pv 2) rfl)
  (pss_cons (ps_fld (pv 0) (pe_df D_exchanges_of hr rfl (pa_cons (pv 1) pa_nil)) rfl)
  (pss_cons (ps_fld (pv 0) pe_dnewT rfl)
  (pss_cons (ps_fld (pv 0) (pe_lst pa_nil) rfl)
  (pss_one (ps_fld (pv 0) (pe_lst pa_nil) rfl)))))))
end Hue
namespace Hue
open PySem PySem.Spec PyProof.Rows L2 DL
abbrev n_case_holds : List Str := ["self", "thing", "above", "tie", "number", "held"]
theorem sc_case_holds : FnScope n_case_holds ["self", "thing", "above", "tie"] (defScope (inClass (top 13) 1)) := ⟨rfl, rfl, rfl, by decide +kernel, rfl, by decide +kernel, by decide +kernel⟩
theorem w_case_holds {P : Program} {w : World} {K : PySem.W.Frag} {mg : Str → Option Value} {base : Heap} {C : Addr} {f : Addr} {cdv : Value} {A : Around} {outer : List Env} {s : Shared} {H : Hp} {E : XK} {k : Nat} (hr : Room k (A.deeper (envOfC "Judge.case_holds" (defScope (inClass (top 13) 1)) s.heap.objs.size f cdv))) (B : Blt mg) (T : Jdg K mg C) {S_row_holds : Sp} (D_row_holds : Dm P w K mg base C k "row_holds" ["self", "row", "number"] S_row_holds) :
    PSs (cxOf CX0 P w K mg base n_case_holds "Judge.case_holds" (defScope (inClass (top 13) 1)) f cdv A outer s H E).nox (defBody (inClass (top 13) 1)) (t_case_holds K C S_row_holds) :=
  (pss_cons (ps_set (i := 4) sc_case_holds.nd rfl (by first | exact Or.inl rfl | exact Or.inr rfl) (pe_callB call_len_seq (by rfl) B.len PySem.boot_len (pa_cons (pe_fld (pv 0) rfl) pa_nil)))
  (pss_cons (ps_expr (pe_bm PySem.F.plainAttrs_list PySem.F.slot_list_append PySem.F.type_list_append mt_append (pe_fld (pv 0) rfl) (pa_cons (pe_tup (pa_cons (pv 2) (pa_cons (pv 3) (pa_cons (pe_dget1N (hu_of hr) (pe_fld (pv 0) rfl) (pv 3) ⟨rfl, rfl, rfl, rfl⟩) pa_nil)))) pa_nil)))
  (pss_cons (ps_expr (pe_bm PySem.F.plainAttrs_list PySem.F.slot_list_append PySem.F.type_list_append mt_append (pe_fld (pv 0) rfl) (pa_cons pe_bl pa_nil)))
  (pss_cons (ps_if (PW.pt (pw_or (pt_not (pt_val (pe_callB call_isi (by rfl) B.isinstance (by decide +kernel) (pa_cons (pv 1) (pa_cons (pe_bltn (v := .ty "tuple") (by rfl) B.tuple (by decide +kernel) rfl) pa_nil))))) (pw_or (pt_cmpR (op_eqD (hu64 hr)) (pv 1) (pe_tup pa_nil) (nomark _)) (pw_or1 (pt_not (pt_val (pe_callB call_isi (by rfl) B.isinstance (by decide +kernel) (pa_cons (pe_ix ix_tup (pv 1) pe_int (fun _ _ => rfl)) (pa_cons (pe_bltn (v := .ty "str") (by rfl) B.str (by decide +kernel) rfl) pa_nil))))))))) (pss_one (ps_ret pe_bl)) pss_nil)
  (pss_cons (ps_set (i := 5) sc_case_holds.nd rfl (by first | exact Or.inl rfl | exact Or.inr rfl) (pe_dm D_row_holds T hr (pv 0) (pa_cons (pv 1) (pa_cons (pv 4) pa_nil))))
  (pss_cons (ps_asg pe_bl (pg_sub (pe_fld (pv 0) rfl) (pv 4) set_list))
  (pss_one (ps_ret (pv 5)))))))))
end Hue
namespace Hue
open PySem PySem.Spec PyProof.Rows L2 DL
abbrev n_row_holds : List Str := ["self", "row", "number", "word", "rest"]
theorem sc_row_holds : FnScope n_row_holds ["self", "row", "number"] (defScope (inClass (top 13) 2)) := ⟨rfl, rfl, rfl, by decide +kernel, rfl, by decide +kernel, by decide +kernel⟩
theorem w_row_holds {P : Program} {w : World} {K : PySem.W.Frag} {mg : Str → Option Value} {base : Heap} {C : Addr} {f : Addr} {cdv : Value} {A : Around} {outer : List Env} {s : Shared} {H : Hp} {E : XK} {k : Nat} (hr : Room k (A.deeper (envOfC "Judge.row_holds" (defScope (inClass (top 13) 2)) s.heap.objs.size f cdv))) (B : Blt mg) (T : Jdg K mg C) {S_like_holds : Sp} (D_like_holds : Dm P w K mg base C k "like_holds" ["self", "number", "points", "exchange"] S_like_holds) {S_split_holds : Sp} (D_split_holds : Dm P w K mg base C k "split_holds" ["self", "tie", "trees", "number"] S_split_holds) {S_group_holds : Sp} (D_group_holds : Dm P w K mg base C k "group_holds" ["self", "colour", "group"] S_group_holds) :
    PSs (cxOf CX0 P w K mg base n_row_holds "Judge.row_holds" (defScope (inClass (top 13) 2)) f cdv A outer s H E).nox (defBody (inClass (top 13) 2)) (t_row_holds K C S_like_holds S_split_holds S_group_holds) :=
  (pss_cons (ps_asg (pv 1) (pg_star (i := 3) (j := 4) sc_row_holds.nd rfl rfl (by first | exact Or.inl rfl | exact Or.inr rfl) (by first | exact Or.inl rfl | exact Or.inr rfl) rfl))
  (pss_cons (ps_if (PW.pt (pw_and (pt_cmpR op_eq (pv 3) pe_str (nomark _)) (pw_and1 (pt_cmpR op_eq (pe_callB call_len_seq (by rfl) B.len PySem.boot_len (pa_cons (pv 4) pa_nil)) pe_int (nomark _))))) (pss_one (ps_ret (pe_dm D_group_holds T hr (pv 0) (pa_cons (pe_ix ix_list (pv 4) pe_int (fun _ _ => rfl)) (pa_cons (pe_ix ix_list (pv 4) pe_int (fun _ _ => rfl)) pa_nil))))) pss_nil)
  (pss_cons (ps_if (PW.pt (pw_and (pt_cmpR op_eq (pv 3) pe_str (nomark _)) (pw_and1 (pt_cmpR op_eq (pe_callB call_len_seq (by rfl) B.len PySem.boot_len (pa_cons (pv 4) pa_nil)) pe_int (nomark _))))) (pss_one (ps_ret (pe_dm D_split_holds T hr (pv 0) (pa_cons (pe_ix ix_list (pv 4) pe_int (fun _ _ => rfl)) (pa_cons (pe_ix ix_list (pv 4) pe_int (fun _ _ => rfl)) (pa_cons (pv 2) pa_nil)))))) pss_nil)
  (pss_one (ps_ret (pe_and (pe_cmpR op_eq (pv 3) pe_str (nomark _)) (pe_and (pe_cmpR op_eq (pe_callB call_len_seq (by rfl) B.len PySem.boot_len (pa_cons (pv 4) pa_nil)) pe_int (nomark _)) (pe_one (pe_dm D_like_holds T hr (pv 0) (pa_cons (pe_ix ix_list (pv 4) pe_int (fun _ _ => rfl)) (pa_cons (pe_ix ix_list (pv 4) pe_int (fun _ _ => rfl)) (pa_cons (pe_ix ix_list (pv 4) pe_int (fun _ _ => rfl)) pa_nil))))))))))))
end Hue
namespace Hue
open PySem PySem.Spec PyProof.Rows L2 DL
abbrev n_group_holds : List Str := ["self", "colour", "group", "web"]
theorem sc_group_holds : FnScope n_group_holds ["self", "colour", "group"] (defScope (inClass (top 13) 3)) := ⟨rfl, rfl, rfl, by decide +kernel, rfl, by decide +kernel, by decide +kernel⟩
theorem w_group_holds {P : Program} {w : World} {K : PySem.W.Frag} {mg : Str → Option Value} {base : Heap} {C : Addr} {f : Addr} {cdv : Value} {A : Around} {outer : List Env} {s : Shared} {H : Hp} {E : XK} {k : Nat} (hr : Room k (A.deeper (envOfC "Judge.group_holds" (defScope (inClass (top 13) 3)) s.heap.objs.size f cdv))) (B : Blt mg) (T : Jdg K mg C) {S_is_group : Sp} (D_is_group : Df P w K mg base k "is_group" ["case", "web", "colour", "points"] S_is_group) {S_are_points : Sp} (D_are_points : Df P w K mg base k "are_points" ["many", "thing"] S_are_points) {S_is_whole : Sp} (D_is_whole : Df P w K mg base k "is_whole" ["thing"] S_is_whole) :
    PSs (cxOf CX0 P w K mg base n_group_holds "Judge.group_holds" (defScope (inClass (top 13) 3)) f cdv A outer s H E).nox (defBody (inClass (top 13) 3)) (t_group_holds K C S_is_group S_are_points S_is_whole) :=
  (pss_cons (ps_if (PW.pt (pw_or (pt_not (pt_val (pe_df D_is_whole hr rfl (pa_cons (pv 1) pa_nil)))) (pw_or1 (pt_not (pt_chain op_le op_lt pe_int (pv 1) (pe_callB call_len_seq (by rfl) B.len PySem.boot_len (pa_cons (pe_fld (pv 0) rfl) pa_nil))))))) (pss_one (ps_ret pe_bl)) pss_nil)
  (pss_cons (ps_set (i := 3) sc_group_holds.nd rfl (by first | exact Or.inl rfl | exact Or.inr rfl) (pe_ix ix_tup (pe_fld (pv 0) rfl) (pv 1) (fun _ _ => rfl)))
  (pss_cons (ps_if (PW.pt (pw_or (pt_not (pt_val (pe_df D_are_points hr rfl (pa_cons (pe_fld (pv 0) rfl) (pa_cons (pv 2) pa_nil))))) (pw_or1 (pt_cmpR op_ne (pe_callB call_len_seq (by rfl) B.len PySem.boot_len (pa_cons (pv 2) pa_nil)) (pe_ix ix_tup (pv 3) pe_int (fun _ _ => rfl)) (nomark _))))) (pss_one (ps_ret pe_bl)) pss_nil)
  (pss_one (ps_ret (pe_df D_is_group hr rfl (pa_cons (pe_fld (pv 0) rfl) (pa_cons (pv 3) (pa_cons (pv 1) (pa_cons (pv 2) pa_nil))))))))))
end Hue
namespace Hue
open PySem PySem.Spec PyProof.Rows L2 DL
abbrev n_split_holds : List Str := ["self", "tie", "trees", "number", "colour", "tree"]
theorem sc_split_holds : FnScope n_split_holds ["self", "tie", "trees", "number"] (defScope (inClass (top 13) 4)) := ⟨rfl, rfl, rfl, by decide +kernel, rfl, by decide +kernel, by decide +kernel⟩
theorem w_split_holds {P : Program} {w : World} {K : PySem.W.Frag} {mg : Str → Option Value} {base : Heap} {C : Addr} {f : Addr} {cdv : Value} {A : Around} {outer : List Env} {s : Shared} {H : Hp} {E : XK} {k : Nat} (hr : Room k (A.deeper (envOfC "Judge.split_holds" (defScope (inClass (top 13) 4)) s.heap.objs.size f cdv))) (B : Blt mg) (T : Jdg K mg C) {S_case_holds : Sp} (D_case_holds : Dm P w K mg base C k "case_holds" ["self", "thing", "above", "tie"] S_case_holds) {S_are_points : Sp} (D_are_points : Df P w K mg base k "are_points" ["many", "thing"] S_are_points) :
    PSs (cxOf CX0 P w K mg base n_split_holds "Judge.split_holds" (defScope (inClass (top 13) 4)) f cdv A outer s H E).nox (defBody (inClass (top 13) 4)) (t_split_holds K C S_case_holds S_are_points) :=
  (pss_cons (ps_if (PW.pt (pw_or (pt_not (pt_val (pe_df D_are_points hr rfl (pa_cons (pe_fld (pv 0) rfl) (pa_cons (pv 1) pa_nil))))) (pw_or (pt_cmpR op_ne (pe_callB call_len_seq (by rfl) B.len PySem.boot_len (pa_cons (pv 1) pa_nil)) pe_int (nomark _)) (pw_or (pt_cmpR op_gt (pe_ix ix_tup (pv 1) pe_int (fun _ _ => rfl)) (pe_ix ix_tup (pv 1) pe_int (fun _ _ => rfl)) (nomark _)) (pw_or1 (pt_cmp (pc_din (hu_of hr) (pv 1) (pe_fld (pv 0) rfl)) rfl)))))) (pss_one (ps_ret pe_bl)) pss_nil)
  (pss_cons (ps_if (PW.pt (pw_or (pt_not (pt_val (pe_callB call_isi (by rfl) B.isinstance (by decide +kernel) (pa_cons (pv 2) (pa_cons (pe_bltn (v := .ty "tuple") (by rfl) B.tuple (by decide +kernel) rfl) pa_nil))))) (pw_or1 (pt_cmpR op_ne (pe_callB call_len_seq (by rfl) B.len PySem.boot_len (pa_cons (pv 2) pa_nil)) (pe_callB call_len_seq (by rfl) B.len PySem.boot_len (pa_cons (pe_fld (pv 0) rfl) pa_nil)) (nomark _))))) (pss_one (ps_ret pe_bl)) pss_nil)
  (pss_cons (ps_for PassesOwn.never rfl (pi_enumT (by rfl) B.enumerate (pa_cons (pv 2) pa_nil)) (pg_tup rfl (pgs_cons (pg_name (i := 4) sc_split_holds.nd rfl (by first | exact Or.inl rfl | exact Or.inr rfl)) (pgs_cons (pg_name (i := 5) sc_split_holds.nd rfl (by first | exact Or.inl rfl | exact Or.inr rfl)) pgs_nil))) (pss_cons (ps_dput (hu_of hr) (pe_fld (pv 0) rfl) (pv 1) (pv 4) rfl)
  (pss_one (ps_if (pt_not (pt_val (pe_dm D_case_holds T hr (pv 0) (pa_cons (pv 5) (pa_cons (pv 3) (pa_cons (pv 1) pa_nil)))))) (pss_one (ps_ret pe_bl)) pss_nil))))
  (pss_cons (ps_expr (pe_dpopT (hu_of hr) (pe_fld (pv 0) rfl) (pv 1) ⟨rfl, rfl, rfl, rfl⟩))
  (pss_one (ps_ret pe_bl))))))
end Hue
namespace Hue
open PySem PySem.Spec PyProof.Rows L2 DL
abbrev n_like_holds : List Str := ["self", "number", "points", "exchange", "there", "settled", "colour", "hue", "a", "b"]
theorem sc_like_holds : FnScope n_like_holds ["self", "number", "points", "exchange"] (defScope (inClass (top 13) 5)) := ⟨rfl, rfl, rfl, by decide +kernel, rfl, by decide +kernel, by decide +kernel⟩
theorem w_like_holds {P : Program} {w : World} {K : PySem.W.Frag} {mg : Str → Option Value} {base : Heap} {C : Addr} {f : Addr} {cdv : Value} {A : Around} {outer : List Env} {s : Shared} {H : Hp} {E : XK} {k : Nat} (hr : Room k (A.deeper (envOfC "Judge.like_holds" (defScope (inClass (top 13) 5)) s.heap.objs.size f cdv))) (B : Blt mg) (T : Jdg K mg C) {S_tie_between : Sp} (D_tie_between : Df P w K mg base k "tie_between" ["a", "b"] S_tie_between) {S_settled_of : Sp} (D_settled_of : Dm P w K mg base C k "settled_of" ["self", "number"] S_settled_of) {S_is_whole : Sp} (D_is_whole : Df P w K mg base k "is_whole" ["thing"] S_is_whole) {S_are_points : Sp} (D_are_points : Df P w K mg base k "are_points" ["many", "thing"] S_are_points) :
    PSs (cxOf CX0 P w K mg base n_like_holds "Judge.like_holds" (defScope (inClass (top 13) 5)) f cdv A outer s H E).nox (defBody (inClass (top 13) 5)) (t_like_holds K C S_tie_between S_settled_of S_is_whole S_are_points) :=
  (pss_cons (ps_if (PW.pt (pw_or (pt_not (pt_val (pe_df D_is_whole hr rfl (pa_cons (pv 1) pa_nil)))) (pw_or (pt_not (pt_chain op_le op_lt pe_int (pv 1) (pe_callB call_len_seq (by rfl) B.len PySem.boot_len (pa_cons (pe_fld (pv 0) rfl) pa_nil)))) (pw_or1 (pt_not (pt_val (pe_ix ix_list (pe_fld (pv 0) rfl) (pv 1) (fun _ _ => rfl)))))))) (pss_one (ps_ret pe_bl)) pss_nil)
  (pss_cons (ps_if (PW.pt (pw_or (pt_not (pt_val (pe_df D_are_points hr rfl (pa_cons (pe_fld (pv 0) rfl) (pa_cons (pv 2) pa_nil))))) (pw_or1 (pt_cmpR op_ne (pe_callB call_len_seq (by rfl) B.len PySem.boot_len (pa_cons (pv 2) pa_nil)) (pe_fld (pv 0) rfl) (nomark _))))) (pss_one (ps_ret pe_bl)) pss_nil)
  (pss_cons (ps_if (PW.pt (pw_or (pt_not (pt_val (pe_callB call_isi (by rfl) B.isinstance (by decide +kernel) (pa_cons (pv 3) (pa_cons (pe_bltn (v := .ty "tuple") (by rfl) B.tuple (by decide +kernel) rfl) pa_nil))))) (pw_or1 (pt_not (pt_val (pe_callB (cr_all rfl) (by rfl) B.all (by decide +kernel) (pa_cons (pe_lc (own := [("colour", 6)]) rfl sc_like_holds.nd (pi_tup (pv 3)) (blkOk_by (own := [("colour", 6)]) (N := n_like_holds) (sc := (defScope (inClass (top 13) 5))) (by decide +kernel)) (fun _ _ _ _ _ => (pg_name (i := 6) sc_like_holds.nd rfl (by first | exact Or.inl rfl | exact Or.inr rfl))) (fun _ _ _ _ _ => pts_nil) (fun _ _ _ _ _ => (pe_df D_is_whole hr rfl (pa_cons (pv 6) pa_nil)))) pa_nil))))))) (pss_one (ps_ret pe_bl)) pss_nil)
  (pss_cons (ps_if (pt_cmpR (op_notInD (hu65 hr)) (pv 3) (pe_fld (pv 0) rfl) (by rfl)) (pss_one (ps_ret pe_bl)) pss_nil)
  (pss_cons (ps_set (i := 4) sc_like_holds.nd rfl (by first | exact Or.inl rfl | exact Or.inr rfl) (pe_fld (pv 0) rfl))
  (pss_cons (ps_set (i := 5) sc_like_holds.nd rfl (by first | exact Or.inl rfl | exact Or.inr rfl) (pe_dm D_settled_of T hr (pv 0) (pa_cons (pv 1) pa_nil)))
  (pss_one (ps_ret (pe_callB (cr_all rfl) (by rfl) B.all (by decide +kernel) (pa_cons (pe_lc (own := [("hue", 7), ("a", 8), ("b", 9)]) rfl sc_like_holds.nd (pi_list (pv 5)) (blkOk_by (own := [("hue", 7), ("a", 8), ("b", 9)]) (N := n_like_holds) (sc := (defScope (inClass (top 13) 5))) (by decide +kernel)) (fun _ _ _ _ _ => (pg_tup rfl (pgs_cons (pg_tup rfl (pgs_cons (pg_name (i := 8) sc_like_holds.nd rfl (by first | exact Or.inl rfl | exact Or.inr rfl)) (pgs_cons (pg_name (i := 9) sc_like_holds.nd rfl (by first | exact Or.inl rfl | exact Or.inr rfl)) pgs_nil))) (pgs_cons (pg_name (i := 7) sc_like_holds.nd rfl (by first | exact Or.inl rfl | exact Or.inr rfl)) pgs_nil)))) (fun _ _ _ _ _ => pts_nil) (fun _ _ _ _ _ => (pe_cmpR op_eq (pe_dget1 (hu_of hr) (pv 4) (pe_df D_tie_between hr rfl (pa_cons (pe_ix ix_tup (pv 2) (pv 8) (fun _ _ => rfl)) (pa_cons (pe_ix ix_tup (pv 2) (pv 9) (fun _ _ => rfl)) pa_nil))) ⟨rfl, rfl, rfl, rfl⟩) (pe_ix ix_tup (pv 3) (pv 7) (fun _ _ => rfl)) (nomark _)))) pa_nil))))))))))
end Hue
namespace Hue
open PySem PySem.Spec PyProof.Rows L2 DL
abbrev n_settled_of : List Str := ["self", "number", "settled", "above", "tie", "hue"]
theorem sc_settled_of : FnScope n_settled_of ["self", "number"] (defScope (inClass (top 13) 6)) := ⟨rfl, rfl, rfl, by decide +kernel, rfl, by decide +kernel, by decide +kernel⟩
theorem w_settled_of {P : Program} {w : World} {K : PySem.W.Frag} {mg : Str → Option Value} {base : Heap} {C : Addr} {f : Addr} {cdv : Value} {A : Around} {outer : List Env} {s : Shared} {H : Hp} {E : XK} {k : Nat} (hr : Room k (A.deeper (envOfC "Judge.settled_of" (defScope (inClass (top 13) 6)) s.heap.objs.size f cdv))) (B : Blt mg) (T : Jdg K mg C) :
    PSs (cxOf CX0 P w K mg base n_settled_of "Judge.settled_of" (defScope (inClass (top 13) 6)) f cdv A outer s H E).nox (defBody (inClass (top 13) 6)) (t_settled_of K C) :=
  (pss_cons (ps_set (i := 2) sc_settled_of.nd rfl (by first | exact Or.inl rfl | exact Or.inr rfl) (pe_lst pa_nil))
  (pss_cons (ps_while PassesOwn.never (pt_cmp (pc_notN (pv 1)) rfl) (pss_cons (ps_asg (pe_ix ix_list (pe_fld (pv 0) rfl) (pv 1) (fun _ _ => rfl)) (pg_tup rfl (pgs_cons (pg_name (i := 3) sc_settled_of.nd rfl (by first | exact Or.inl rfl | exact Or.inr rfl)) (pgs_cons (pg_name (i := 4) sc_settled_of.nd rfl (by first | exact Or.inl rfl | exact Or.inr rfl)) (pgs_cons (pg_name (i := 5) sc_settled_of.nd rfl (by first | exact Or.inl rfl | exact Or.inr rfl)) pgs_nil)))))
  (pss_cons (ps_if (pt_cmp (pc_notN (pv 4)) rfl) (pss_one (ps_expr (pe_bm PySem.F.plainAttrs_list PySem.F.slot_list_append PySem.F.type_list_append mt_append (pv 2) (pa_cons (pe_tup (pa_cons (pv 4) (pa_cons (pv 5) pa_nil))) pa_nil)))) pss_nil)
  (pss_one (ps_set (i := 1) sc_settled_of.nd rfl (by first | exact Or.inl rfl | exact Or.inr rfl) (pv 3))))))
  (pss_one (ps_ret (pv 2)))))
end Hue
namespace Hue
open PySem PySem.Spec PyProof.Rows L2 DL
abbrev n_tree_holds : List Str := ["demand", "many", "tree"]
theorem sc_tree_holds : FnScope n_tree_holds ["demand", "many", "tree"] (defScope (top 14)) := ⟨rfl, rfl, rfl, by decide +kernel, rfl, by decide +kernel, by decide +kernel⟩
theorem w_tree_holds {P : Program} {w : World} {K : PySem.W.Frag} {mg : Str → Option Value} {base : Heap} {C : Addr} {f : Addr} {cdv : Value} {A : Around} {outer : List Env} {s : Shared} {H : Hp} {E : XK} {k : Nat} (hr : Room k (A.deeper (envOfC "tree_holds" (defScope (top 14)) s.heap.objs.size f cdv))) (B : Blt mg) (T : Jdg K mg C) {S_case_holds : Sp} (D_case_holds : Dm P w K mg base C k "case_holds" ["self", "thing", "above", "tie"] S_case_holds) {S___init__ : Sp} (D___init__ : Dk P w K mg base C k ["self", "demand", "many"] S___init__) :
    PSs (cxOf CX0 P w K mg base n_tree_holds "tree_holds" (defScope (top 14)) f cdv A outer s H E).nox (defBody (top 14)) (t_tree_holds K C S_case_holds S___init__) :=
  (pss_one (ps_ret (pe_dmR D_case_holds T hr (pe_dmk D___init__ T hr rfl (pa_cons (pv 0) (pa_cons (pv 1) pa_nil))) (pa_cons (pv 2) (pa_cons pe_non (pa_cons pe_non pa_nil))) rfl rfl)))
end Hue
namespace Hue
open PySem PySem.Spec PyProof.Rows L2 DL
abbrev n__law_mix : List Str := ["_law_bag_here", "_law_one"]
theorem sc__law_mix : FnScope n__law_mix ["_law_bag_here"] (defScope (top 16)) := ⟨rfl, rfl, rfl, by decide +kernel, rfl, by decide +kernel, by decide +kernel⟩
theorem w__law_mix {P : Program} {w : World} {K : PySem.W.Frag} {mg : Str → Option Value} {base : Heap} {f : Addr} {cdv : Value} {A : Around} {outer : List Env} {s : Shared} {H : Hp} {E : XK} {k : Nat} (hr : Room k (A.deeper (envOfC "_law_mix" (defScope (top 16)) s.heap.objs.size f cdv))) (B : Blt mg) :
    PSs (cxOf CX0 P w K mg base n__law_mix "_law_mix" (defScope (top 16)) f cdv A outer s H E).nox (defBody (top 16)) (t__law_mix K) :=
  (pss_cons (ps_set (i := 1) sc__law_mix.nd rfl (by first | exact Or.inl rfl | exact Or.inr rfl) (pe_ix ix_list (pv 0) pe_int (fun _ _ => rfl)))
  (pss_cons (ps_asg (pe_op op_mod (pe_op op_add (pe_op op_add (pe_op op_mulW (pv 1) (pv 1)) (pe_op op_mulW pe_int (pv 1))) (pe_ix ix_list (pv 0) pe_int (fun _ _ => rfl))) (pe_op op_add (pe_op op_pow pe_int pe_int) pe_int)) (pg_sub (pv 0) pe_int set_list))
  (pss_one (ps_asg (pe_op op_add (pe_ix ix_list (pv 0) pe_int (fun _ _ => rfl)) pe_int) (pg_sub (pv 0) pe_int set_list)))))
end Hue
namespace Hue
open PySem PySem.Spec PyProof.Rows L2 DL
abbrev n__law_bag : List Str := ["_law_cell", "_law_bag_here"]
theorem sc__law_bag : FnScope n__law_bag ["_law_cell"] (defScope (top 17)) := ⟨rfl, rfl, rfl, by decide +kernel, rfl, by decide +kernel, by decide +kernel⟩
theorem w__law_bag {P : Program} {w : World} {K : PySem.W.Frag} {mg : Str → Option Value} {base : Heap} {f : Addr} {cdv : Value} {A : Around} {outer : List Env} {s : Shared} {H : Hp} {E : XK} {k : Nat} (hr : Room k (A.deeper (envOfC "_law_bag" (defScope (top 17)) s.heap.objs.size f cdv))) (B : Blt mg) {S__law_mix : Sp} (D__law_mix : Df P w K mg base k "_law_mix" ["_law_bag_here"] S__law_mix) :
    PSs (cxOf CX0 P w K mg base n__law_bag "_law_bag" (defScope (top 17)) f cdv A outer s H E).nox (defBody (top 17)) (t__law_bag K S__law_mix) :=
  (pss_cons (ps_set (i := 1) sc__law_bag.nd rfl (by first | exact Or.inl rfl | exact Or.inr rfl) (pe_lst (pa_cons (pe_callB (call_max2 rfl) (by rfl) B.max (by decide +kernel) (pa_cons pe_int (pa_cons (pe_op op_sub (pv 0) (pe_op op_pow pe_int pe_int)) pa_nil))) (pa_cons (pe_op op_add (pe_op op_add (pe_op op_mulW (pe_op op_mod (pv 0) (pe_op op_pow pe_int pe_int)) pe_int) (pe_op op_pow pe_int pe_int)) pe_int) (pa_cons pe_int pa_nil)))))
  (pss_cons (ps_expr (pe_df D__law_mix hr rfl (pa_cons (pv 1) pa_nil)))
  (pss_cons (ps_expr (pe_df D__law_mix hr rfl (pa_cons (pv 1) pa_nil)))
  (pss_one (ps_ret (pv 1))))))
end Hue
namespace Hue
open PySem PySem.Spec PyProof.Rows L2 DL
abbrev n__law_draw : List Str := ["_law_bag_here", "_law_many", "_law_digit"]
theorem sc__law_draw : FnScope n__law_draw ["_law_bag_here", "_law_many"] (defScope (top 18)) := ⟨rfl, rfl, rfl, by decide +kernel, rfl, by decide +kernel, by decide +kernel⟩
theorem w__law_draw {P : Program} {w : World} {K : PySem.W.Frag} {mg : Str → Option Value} {base : Heap} {f : Addr} {cdv : Value} {A : Around} {outer : List Env} {s : Shared} {H : Hp} {E : XK} {k : Nat} (hr : Room k (A.deeper (envOfC "_law_draw" (defScope (top 18)) s.heap.objs.size f cdv))) (B : Blt mg) {S__law_mix : Sp} (D__law_mix : Df P w K mg base k "_law_mix" ["_law_bag_here"] S__law_mix) :
    PSs (cxOf CX0 P w K mg base n__law_draw "_law_draw" (defScope (top 18)) f cdv A outer s H E).nox (defBody (top 18)) (t__law_draw K S__law_mix) :=
  (pss_cons (ps_if (pt_cmpR op_gt (pe_ix ix_list (pv 0) pe_int (fun _ _ => rfl)) pe_int (nomark _)) (pss_cons (ps_set (i := 2) sc__law_draw.nd rfl (by first | exact Or.inl rfl | exact Or.inr rfl) (pe_op op_mod (pe_ix ix_list (pv 0) pe_int (fun _ _ => rfl)) (pv 1)))
  (pss_cons (ps_asg (pe_op op_fdivN (pe_ix ix_list (pv 0) pe_int (fun _ _ => rfl)) (pv 1)) (pg_sub (pv 0) pe_int set_list))
  (pss_one (ps_ret (pv 2))))) pss_nil)
  (pss_cons (ps_expr (pe_df D__law_mix hr rfl (pa_cons (pv 0) pa_nil)))
  (pss_one (ps_ret (pe_op op_mod (pe_op op_fdivN (pe_ix ix_list (pv 0) pe_int (fun _ _ => rfl)) (pe_op op_pow pe_int pe_int)) (pv 1))))))
end Hue
namespace Hue
open PySem PySem.Spec PyProof.Rows L2 DL
abbrev n__law_turned : List Str := ["_law_bag_here", "_law_many", "_law_left", "_law_spot"]
theorem sc__law_turned : FnScope n__law_turned ["_law_bag_here", "_law_many"] (defScope (top 19)) := ⟨rfl, rfl, rfl, by decide +kernel, rfl, by decide +kernel, by decide +kernel⟩
theorem w__law_turned {P : Program} {w : World} {K : PySem.W.Frag} {mg : Str → Option Value} {base : Heap} {f : Addr} {cdv : Value} {A : Around} {outer : List Env} {s : Shared} {H : Hp} {E : XK} {k : Nat} (hr : Room k (A.deeper (envOfC "_law_turned" (defScope (top 19)) s.heap.objs.size f cdv))) (B : Blt mg) {S__law_draw : Sp} (D__law_draw : Df P w K mg base k "_law_draw" ["_law_bag_here", "_law_many"] S__law_draw) :
    PSs (cxOf CX0 P w K mg base n__law_turned "_law_turned" (defScope (top 19)) f cdv A outer s H E).nox (defBody (top 19)) (t__law_turned K S__law_draw) :=
  (pss_cons (ps_set (i := 2) sc__law_turned.nd rfl (by first | exact Or.inl rfl | exact Or.inr rfl) (pe_listRg rfl (by rfl) B.list (prg_1 (by rfl) B.range (pv 1))))
  (pss_one (ps_ret (pe_lc (own := [("_law_spot", 3)]) rfl sc__law_turned.nd (pi_range1 (by rfl) B.range (pa_cons (pv 1) pa_nil)) (blkOk_by (own := [("_law_spot", 3)]) (N := n__law_turned) (sc := (defScope (top 19))) (by decide +kernel)) (fun _ _ _ _ _ => (pg_name (i := 3) sc__law_turned.nd rfl (by first | exact Or.inl rfl | exact Or.inr rfl))) (fun _ _ _ _ _ => pts_nil) (fun _ _ _ _ _ => (pe_bm PySem.F.plainAttrs_list PySem.F.slot_list_pop PySem.F.type_list_pop mt_popAt (pv 2) (pa_cons (pe_df D__law_draw hr rfl (pa_cons (pv 0) (pa_cons (pe_callB call_len_seq (by rfl) B.len PySem.boot_len (pa_cons (pv 2) pa_nil)) pa_nil))) pa_nil)))))))
end Hue
namespace Hue
open PySem PySem.Spec PyProof.Rows L2 DL
abbrev n__law_ties : List Str := ["_law_many", "_law_found", "_law_one", "_law_other"]
theorem sc__law_ties : FnScope n__law_ties ["_law_many"] (defScope (top 20)) := ⟨rfl, rfl, rfl, by decide +kernel, rfl, by decide +kernel, by decide +kernel⟩
theorem w__law_ties {P : Program} {w : World} {K : PySem.W.Frag} {mg : Str → Option Value} {base : Heap} {f : Addr} {cdv : Value} {A : Around} {outer : List Env} {s : Shared} {H : Hp} {E : XK} {k : Nat} (hr : Room k (A.deeper (envOfC "_law_ties" (defScope (top 20)) s.heap.objs.size f cdv))) (B : Blt mg) :
    PSs (cxOf CX0 P w K mg base n__law_ties "_law_ties" (defScope (top 20)) f cdv A outer s H E).nox (defBody (top 20)) (t__law_ties K) :=
  (pss_cons (ps_set (i := 1) sc__law_ties.nd rfl (by first | exact Or.inl rfl | exact Or.inr rfl) (pe_lst pa_nil))
  (pss_cons (ps_for PassesOwn.never rfl (pi_range1 (by rfl) B.range (pa_cons (pv 0) pa_nil)) (pg_name (i := 2) sc__law_ties.nd rfl (by first | exact Or.inl rfl | exact Or.inr rfl)) (pss_one (ps_set (i := 1) sc__law_ties.nd rfl (by first | exact Or.inl rfl | exact Or.inr rfl) (pe_op op_cat (pv 1) (pe_lc (own := [("_law_other", 3)]) rfl sc__law_ties.nd (pi_range2 (by rfl) B.range (pa_cons (pe_op op_add (pv 2) pe_int) (pa_cons (pv 0) pa_nil))) (blkOk_by (own := [("_law_other", 3)]) (N := n__law_ties) (sc := (defScope (top 20))) (by decide +kernel)) (fun _ _ _ _ _ => (pg_name (i := 3) sc__law_ties.nd rfl (by first | exact Or.inl rfl | exact Or.inr rfl))) (fun _ _ _ _ _ => pts_nil) (fun _ _ _ _ _ => (pe_tup (pa_cons (pv 2) (pa_cons (pv 3) pa_nil)))))))))
  (pss_one (ps_ret (pv 1)))))
end Hue
namespace Hue
open PySem PySem.Spec PyProof.Rows L2 DL
abbrev n__law_moved_web : List Str := ["_law_web_here", "_law_order", "_law_a", "_law_b"]
theorem sc__law_moved_web : FnScope n__law_moved_web ["_law_web_here", "_law_order"] (defScope (top 21)) := ⟨rfl, rfl, rfl, by decide +kernel, rfl, by decide +kernel, by decide +kernel⟩
theorem w__law_moved_web {P : Program} {w : World} {K : PySem.W.Frag} {mg : Str → Option Value} {base : Heap} {f : Addr} {cdv : Value} {A : Around} {outer : List Env} {s : Shared} {H : Hp} {E : XK} {k : Nat} (hr : Room k (A.deeper (envOfC "_law_moved_web" (defScope (top 21)) s.heap.objs.size f cdv))) (B : Blt mg) :
    PSs (cxOf CX0 P w K mg base n__law_moved_web "_law_moved_web" (defScope (top 21)) f cdv A outer s H E).nox (defBody (top 21)) (t__law_moved_web K) :=
  (pss_one (ps_ret (pe_tup (pa_cons (pe_ix ix_tup (pv 0) pe_int (fun _ _ => rfl)) (pa_cons (pe_tupleOf (by rfl) B.tuple (pe_callB (cr_sortT (by decide)) (by rfl) B.sorted (by decide +kernel) (pa_cons (pe_lc (own := [("_law_a", 2), ("_law_b", 3)]) rfl sc__law_moved_web.nd (pi_tup (pe_ix ix_tup (pv 0) pe_int (fun _ _ => rfl))) (blkOk_by (own := [("_law_a", 2), ("_law_b", 3)]) (N := n__law_moved_web) (sc := (defScope (top 21))) (by decide +kernel)) (fun _ _ _ _ _ => (pg_tup rfl (pgs_cons (pg_name (i := 2) sc__law_moved_web.nd rfl (by first | exact Or.inl rfl | exact Or.inr rfl)) (pgs_cons (pg_name (i := 3) sc__law_moved_web.nd rfl (by first | exact Or.inl rfl | exact Or.inr rfl)) pgs_nil)))) (fun _ _ _ _ _ => pts_nil) (fun _ _ _ _ _ => (pe_tupleOf (by rfl) B.tuple (pe_callB cr_sorted (by rfl) B.sorted (by decide +kernel) (pa_cons (pe_lst (pa_cons (pe_ix ix_seq (pv 1) (pv 2) (fun _ _ => rfl)) (pa_cons (pe_ix ix_seq (pv 1) (pv 3) (fun _ _ => rfl)) pa_nil))) pa_nil))))) pa_nil))) pa_nil)))))
end Hue
namespace Hue
open PySem PySem.Spec PyProof.Rows L2 DL
abbrev n__law_web : List Str := ["_law_bag_here", "_law_most", "_law_many", "_law_pairs", "_law_turn", "_law_ties_here", "_law_spot", "_law_a", "_law_b"]
theorem sc__law_web : FnScope n__law_web ["_law_bag_here", "_law_most"] (defScope (top 22)) := ⟨rfl, rfl, rfl, by decide +kernel, rfl, by decide +kernel, by decide +kernel⟩
theorem w__law_web {P : Program} {w : World} {K : PySem.W.Frag} {mg : Str → Option Value} {base : Heap} {f : Addr} {cdv : Value} {A : Around} {outer : List Env} {s : Shared} {H : Hp} {E : XK} {k : Nat} (hr : Room k (A.deeper (envOfC "_law_web" (defScope (top 22)) s.heap.objs.size f cdv))) (B : Blt mg) {S__law_moved_web : Sp} (D__law_moved_web : Df P w K mg base k "_law_moved_web" ["_law_web_here", "_law_order"] S__law_moved_web) {S__law_turned : Sp} (D__law_turned : Df P w K mg base k "_law_turned" ["_law_bag_here", "_law_many"] S__law_turned) {S__law_draw : Sp} (D__law_draw : Df P w K mg base k "_law_draw" ["_law_bag_here", "_law_many"] S__law_draw) {S__law_ties : Sp} (D__law_ties : Df P w K mg base k "_law_ties" ["_law_many"] S__law_ties) :
    PSs (cxOf CX0 P w K mg base n__law_web "_law_web" (defScope (top 22)) f cdv A outer s H E).nox (defBody (top 22)) (t__law_web K P w S__law_moved_web S__law_turned S__law_draw S__law_ties) :=
  (pss_cons (ps_set (i := 2) sc__law_web.nd rfl (by first | exact Or.inl rfl | exact Or.inr rfl) (pe_op op_add pe_int (pe_df D__law_draw hr rfl (pa_cons (pv 0) (pa_cons (pe_op op_sub (pv 1) pe_int) pa_nil)))))
  (pss_cons (ps_setLc (i := 3) (own := [("_law_spot", 6)]) rfl sc__law_web.nd rfl rfl (sw_true rfl rfl rfl (by decide +kernel)) (pi_range2 (by rfl) B.range (pa_cons pe_int (pa_cons (pv 2) pa_nil))) (blkOk_by (own := [("_law_spot", 6)]) (N := n__law_web) (sc := (defScope (top 22))) (by decide +kernel)) (fun _ _ _ _ _ => (pg_name (i := 6) sc__law_web.nd rfl (by first | exact Or.inl rfl | exact Or.inr rfl))) (fun _ _ _ _ _ => pts_nil) (fun _ _ _ _ _ => (pe_tup (pa_cons (pe_df D__law_draw hr rfl (pa_cons (pv 0) (pa_cons (pv 6) pa_nil))) (pa_cons (pv 6) pa_nil)))))
  (pss_cons (ps_for PassesOwn.never rfl (pi_range1 (by rfl) B.range (pa_cons (pe_df D__law_draw hr rfl (pa_cons (pv 0) (pa_cons pe_int pa_nil))) pa_nil)) (pg_name (i := 4) sc__law_web.nd rfl (by first | exact Or.inl rfl | exact Or.inr rfl)) (pss_one (ps_expr (pe_bm PySem.F.plainAttrs_list PySem.F.slot_list_append PySem.F.type_list_append mt_append (pv 3) (pa_cons (pe_tup (pa_cons (pe_df D__law_draw hr rfl (pa_cons (pv 0) (pa_cons (pv 2) pa_nil))) (pa_cons (pe_df D__law_draw hr rfl (pa_cons (pv 0) (pa_cons (pv 2) pa_nil))) pa_nil))) pa_nil)))))
  (pss_cons (ps_if (pt_cmpR op_eq (pe_df D__law_draw hr rfl (pa_cons (pv 0) (pa_cons pe_int pa_nil))) pe_int (nomark _)) (pss_one (ps_set (i := 3) sc__law_web.nd rfl (by first | exact Or.inl rfl | exact Or.inr rfl) (pe_df D__law_ties hr rfl (pa_cons (pv 2) pa_nil)))) pss_nil)
  (pss_cons (ps_set (i := 5) sc__law_web.nd rfl (by first | exact Or.inl rfl | exact Or.inr rfl) (pe_callB (cr_sortedT rfl) (by rfl) B.sorted (by decide +kernel) (pa_cons (pe_callTy (cr_setOfT rfl (hu64 hr)) (by rfl) B.set (by decide +kernel) (pa_cons (pe_lc (own := [("_law_a", 7), ("_law_b", 8)]) rfl sc__law_web.nd (pi_list (pv 3)) (blkOk_by (own := [("_law_a", 7), ("_law_b", 8)]) (N := n__law_web) (sc := (defScope (top 22))) (by decide +kernel)) (fun _ _ _ _ _ => (pg_tup rfl (pgs_cons (pg_name (i := 7) sc__law_web.nd rfl (by first | exact Or.inl rfl | exact Or.inr rfl)) (pgs_cons (pg_name (i := 8) sc__law_web.nd rfl (by first | exact Or.inl rfl | exact Or.inr rfl)) pgs_nil)))) (fun _ _ _ _ _ => (pts_one (pt_cmpR op_ne (pv 7) (pv 8) (nomark _)))) (fun _ _ _ _ _ => (pe_tup (pa_cons (pe_callB (call_min2 rfl) (by rfl) B.min (by decide +kernel) (pa_cons (pv 7) (pa_cons (pv 8) pa_nil))) (pa_cons (pe_callB (call_max2 rfl) (by rfl) B.max (by decide +kernel) (pa_cons (pv 7) (pa_cons (pv 8) pa_nil))) pa_nil))))) pa_nil)) pa_nil)))
  (pss_one (ps_ret (pe_df D__law_moved_web hr rfl (pa_cons (pe_tup (pa_cons (pv 2) (pa_cons (pe_tupleOf (by rfl) B.tuple (pv 5)) pa_nil))) (pa_cons (pe_df D__law_turned hr rfl (pa_cons (pv 0) (pa_cons (pv 2) pa_nil))) pa_nil))))))))))
end Hue
namespace Hue
open PySem PySem.Spec PyProof.Rows L2 DL
abbrev n__law_demand : List Str := ["_law_bag_here", "_law_colours", "_law_most", "_law_webs", "_law_colour", "_law_web_here", "_law_old"]
theorem sc__law_demand : FnScope n__law_demand ["_law_bag_here", "_law_colours", "_law_most"] (defScope (top 23)) := ⟨rfl, rfl, rfl, by decide +kernel, rfl, by decide +kernel, by decide +kernel⟩
theorem w__law_demand {P : Program} {w : World} {K : PySem.W.Frag} {mg : Str → Option Value} {base : Heap} {f : Addr} {cdv : Value} {A : Around} {outer : List Env} {s : Shared} {H : Hp} {E : XK} {k : Nat} (hr : Room k (A.deeper (envOfC "_law_demand" (defScope (top 23)) s.heap.objs.size f cdv))) (B : Blt mg) {S__law_draw : Sp} (D__law_draw : Df P w K mg base k "_law_draw" ["_law_bag_here", "_law_many"] S__law_draw) {S__law_moved_web : Sp} (D__law_moved_web : Df P w K mg base k "_law_moved_web" ["_law_web_here", "_law_order"] S__law_moved_web) {S__law_turned : Sp} (D__law_turned : Df P w K mg base k "_law_turned" ["_law_bag_here", "_law_many"] S__law_turned) {S__law_web : Sp} (D__law_web : Df P w K mg base k "_law_web" ["_law_bag_here", "_law_most"] S__law_web) :
    PSs (cxOf CX0 P w K mg base n__law_demand "_law_demand" (defScope (top 23)) f cdv A outer s H E).nox (defBody (top 23)) (t__law_demand K S__law_draw S__law_moved_web S__law_turned S__law_web) :=
  (pss_cons (ps_set (i := 3) sc__law_demand.nd rfl (by first | exact Or.inl rfl | exact Or.inr rfl) (pe_lst pa_nil))
  (pss_cons (ps_for PassesOwn.never rfl (pi_range1 (by rfl) B.range (pa_cons (pv 1) pa_nil)) (pg_name (i := 4) sc__law_demand.nd rfl (by first | exact Or.inl rfl | exact Or.inr rfl)) (pss_cons (ps_set (i := 5) sc__law_demand.nd rfl (by first | exact Or.inl rfl | exact Or.inr rfl) (pe_df D__law_web hr rfl (pa_cons (pv 0) (pa_cons (pv 2) pa_nil))))
  (pss_cons (ps_if (PW.pt (pw_and (pt_cmpR (op_neD (hu64 hr)) (pv 3) (pe_lst pa_nil) (nomark _)) (pw_and1 (pt_cmpR op_eq (pe_df D__law_draw hr rfl (pa_cons (pv 0) (pa_cons pe_int pa_nil))) pe_int (nomark _))))) (pss_cons (ps_set (i := 6) sc__law_demand.nd rfl (by first | exact Or.inl rfl | exact Or.inr rfl) (pe_ix ix_list (pv 3) (pe_df D__law_draw hr rfl (pa_cons (pv 0) (pa_cons (pe_callB call_len_seq (by rfl) B.len PySem.boot_len (pa_cons (pv 3) pa_nil)) pa_nil))) (fun _ _ => rfl)))
  (pss_one (ps_set (i := 5) sc__law_demand.nd rfl (by first | exact Or.inl rfl | exact Or.inr rfl) (pe_df D__law_moved_web hr rfl (pa_cons (pv 6) (pa_cons (pe_df D__law_turned hr rfl (pa_cons (pv 0) (pa_cons (pe_ix ix_tup (pv 6) pe_int (fun _ _ => rfl)) pa_nil))) pa_nil)))))) pss_nil)
  (pss_one (ps_expr (pe_bm PySem.F.plainAttrs_list PySem.F.slot_list_append PySem.F.type_list_append mt_append (pv 3) (pa_cons (pv 5) pa_nil)))))))
  (pss_one (ps_ret (pe_tupleOf (by rfl) B.tuple (pv 3))))))
end Hue
namespace Hue
open PySem PySem.Spec PyProof.Rows L2 DL
abbrev n__law_hue : List Str := ["_law_case", "_law_one", "_law_other"]
theorem sc__law_hue : FnScope n__law_hue ["_law_case", "_law_one", "_law_other"] (defScope (top 24)) := ⟨rfl, rfl, rfl, by decide +kernel, rfl, by decide +kernel, by decide +kernel⟩
theorem w__law_hue {P : Program} {w : World} {K : PySem.W.Frag} {mg : Str → Option Value} {base : Heap} {f : Addr} {cdv : Value} {A : Around} {outer : List Env} {s : Shared} {H : Hp} {E : XK} {k : Nat} (hr : Room k (A.deeper (envOfC "_law_hue" (defScope (top 24)) s.heap.objs.size f cdv))) (B : Blt mg) :
    PSs (cxOf CX0 P w K mg base n__law_hue "_law_hue" (defScope (top 24)) f cdv A outer s H E).nox (defBody (top 24)) (t__law_hue K) :=
  (pss_one (ps_ret (pe_dget2 (hu_of hr) (pv 0) (pe_tup (pa_cons (pe_callB (call_min2 rfl) (by rfl) B.min (by decide +kernel) (pa_cons (pv 1) (pa_cons (pv 2) pa_nil))) (pa_cons (pe_callB (call_max2 rfl) (by rfl) B.max (by decide +kernel) (pa_cons (pv 1) (pa_cons (pv 2) pa_nil))) pa_nil))) pe_int ⟨rfl, rfl, rfl, rfl⟩)))
end Hue
namespace Hue
open PySem PySem.Spec PyProof.Rows L2 DL
abbrev n__law_group : List Str := ["_law_case", "_law_web_here", "_law_colour", "_law_points_here", "_law_rows", "_law_spot", "_law_near", "_law_more", "_law_row", "_law_point", "_law_bad", "_law_a", "_law_b"]
theorem sc__law_group : FnScope n__law_group ["_law_case", "_law_web_here", "_law_colour", "_law_points_here"] (defScope (top 25)) := ⟨rfl, rfl, rfl, by decide +kernel, rfl, by decide +kernel, by decide +kernel⟩
theorem w__law_group {P : Program} {w : World} {K : PySem.W.Frag} {mg : Str → Option Value} {base : Heap} {f : Addr} {cdv : Value} {A : Around} {outer : List Env} {s : Shared} {H : Hp} {E : XK} {k : Nat} (hr : Room k (A.deeper (envOfC "_law_group" (defScope (top 25)) s.heap.objs.size f cdv))) (B : Blt mg) {S__law_hue : Sp} (D__law_hue : Df P w K mg base k "_law_hue" ["_law_case", "_law_one", "_law_other"] S__law_hue) :
    PSs (cxOf CX0 P w K mg base n__law_group "_law_group" (defScope (top 25)) f cdv A outer s H E).nox (defBody (top 25)) (t__law_group K S__law_hue) :=
  (pss_cons (ps_set (i := 4) sc__law_group.nd rfl (by first | exact Or.inl rfl | exact Or.inr rfl) (pe_lst (pa_cons (pe_tup pa_nil) pa_nil)))
  (pss_cons (ps_for PassesOwn.never rfl (pi_range1 (by rfl) B.range (pa_cons (pe_ix ix_tup (pv 1) pe_int (fun _ _ => rfl)) pa_nil)) (pg_name (i := 5) sc__law_group.nd rfl (by first | exact Or.inl rfl | exact Or.inr rfl)) (pss_cons (ps_setLc (i := 6) (own := [("_law_a", 11), ("_law_b", 12)]) rfl sc__law_group.nd rfl rfl (sw_true rfl rfl rfl (by decide +kernel)) (pi_tup (pe_ix ix_tup (pv 1) pe_int (fun _ _ => rfl))) (blkOk_by (own := [("_law_a", 11), ("_law_b", 12)]) (N := n__law_group) (sc := (defScope (top 25))) (by decide +kernel)) (fun _ _ _ _ _ => (pg_tup rfl (pgs_cons (pg_name (i := 11) sc__law_group.nd rfl (by first | exact Or.inl rfl | exact Or.inr rfl)) (pgs_cons (pg_name (i := 12) sc__law_group.nd rfl (by first | exact Or.inl rfl | exact Or.inr rfl)) pgs_nil)))) (fun _ _ _ _ _ => (pts_one (pt_cmpR op_eq (pv 12) (pv 5) (nomark _)))) (fun _ _ _ _ _ => (pv 11)))
  (pss_cons (ps_set (i := 7) sc__law_group.nd rfl (by first | exact Or.inl rfl | exact Or.inr rfl) (pe_lst pa_nil))
  (pss_cons (ps_for PassesOwn.never rfl (pi_list (pv 4)) (pg_name (i := 8) sc__law_group.nd rfl (by first | exact Or.inl rfl | exact Or.inr rfl)) (pss_one (ps_for PassesOwn.never rfl (pi_list (pv 3)) (pg_name (i := 9) sc__law_group.nd rfl (by first | exact Or.inl rfl | exact Or.inr rfl)) (pss_cons (ps_setLc (i := 10) (own := [("_law_a", 11)]) rfl sc__law_group.nd rfl rfl (sw_true rfl rfl rfl (by decide +kernel)) (pi_list (pv 6)) (blkOk_by (own := [("_law_a", 11)]) (N := n__law_group) (sc := (defScope (top 25))) (by decide +kernel)) (fun _ _ _ _ _ => (pg_name (i := 11) sc__law_group.nd rfl (by first | exact Or.inl rfl | exact Or.inr rfl))) (fun _ _ _ _ _ => (pts_one (pt_cmpR op_ne (pe_df D__law_hue hr rfl (pa_cons (pv 0) (pa_cons (pe_ix ix_tup (pv 8) (pv 11) (fun _ _ => rfl)) (pa_cons (pv 9) pa_nil)))) (pv 2) (nomark _)))) (fun _ _ _ _ _ => (pv 11)))
  (pss_one (ps_if (PW.pt (pw_and (pt_cmpR (op_eqD (hu64 hr)) (pv 10) (pe_lst pa_nil) (nomark _)) (pw_and1 (pt_cmpR op_notIn_seq (pv 9) (pv 8) (by rfl))))) (pss_one (ps_expr (pe_bm PySem.F.plainAttrs_list PySem.F.slot_list_append PySem.F.type_list_append mt_append (pv 7) (pa_cons (pe_op op_catA (pv 8) (pe_tup (pa_cons (pv 9) pa_nil))) pa_nil)))) pss_nil))))))
  (pss_one (ps_set (i := 4) sc__law_group.nd rfl (by first | exact Or.inl rfl | exact Or.inr rfl) (pv 7)))))))
  (pss_one (ps_ret (pe_ifExp (pt_cmpR (op_neD (hu64 hr)) (pv 4) (pe_lst pa_nil) (nomark _)) (pe_ix ix_list (pv 4) pe_int (fun _ _ => rfl)) pe_non)))))
end Hue
namespace Hue
open PySem PySem.Spec PyProof.Rows L2 DL
abbrev n__law_naive : List Str := ["_law_demand_here", "_law_many", "_law_most", "_law_ties_here", "_law_hues", "_law_done", "_law_case", "_law_group_here"]
theorem sc__law_naive : FnScope n__law_naive ["_law_demand_here", "_law_many", "_law_most"] (defScope (top 26)) := ⟨rfl, rfl, rfl, by decide +kernel, rfl, by decide +kernel, by decide +kernel⟩
theorem w__law_naive {P : Program} {w : World} {K : PySem.W.Frag} {mg : Str → Option Value} {base : Heap} {f : Addr} {cdv : Value} {A : Around} {outer : List Env} {s : Shared} {H : Hp} {E : XK} {k : Nat} (hr : Room k (A.deeper (envOfC "_law_naive" (defScope (top 26)) s.heap.objs.size f cdv))) (B : Blt mg) {S__law_group : Sp} (D__law_group : Df P w K mg base k "_law_group" ["_law_case", "_law_web_here", "_law_colour", "_law_points_here"] S__law_group) {S__law_ties : Sp} (D__law_ties : Df P w K mg base k "_law_ties" ["_law_many"] S__law_ties) :
    PSs (cxOf CX0 P w K mg base n__law_naive "_law_naive" (defScope (top 26)) f cdv A outer s H E).nox (defBody (top 26)) (t__law_naive K S__law_group S__law_ties) :=
  (pss_cons (ps_set (i := 3) sc__law_naive.nd rfl (by first | exact Or.inl rfl | exact Or.inr rfl) (pe_df D__law_ties hr rfl (pa_cons (pv 1) pa_nil)))
  (pss_cons (ps_set (i := 4) sc__law_naive.nd rfl (by first | exact Or.inl rfl | exact Or.inr rfl) (pe_lst pa_nil))
  (pss_cons (ps_for PassesOwn.never rfl (pi_range2 (by rfl) B.range (pa_cons pe_int (pa_cons (pe_op op_add (pv 2) pe_int) pa_nil))) (pg_name (i := 5) sc__law_naive.nd rfl (by first | exact Or.inl rfl | exact Or.inr rfl)) (pss_cons (ps_set (i := 6) sc__law_naive.nd rfl (by first | exact Or.inl rfl | exact Or.inr rfl) (pe_dictZip rfl (hu65 hr) (by rfl) B.dict (by rfl) B.zip (pv 3) (pv 4)))
  (pss_cons (ps_set (i := 7) sc__law_naive.nd rfl (by first | exact Or.inl rfl | exact Or.inr rfl) pe_non)
  (pss_cons (ps_if (pt_cmpR (op_neD (hu64 hr)) (pv 4) (pe_lst pa_nil) (nomark _)) (pss_one (ps_set (i := 7) sc__law_naive.nd rfl (by first | exact Or.inl rfl | exact Or.inr rfl) (pe_df D__law_group hr rfl (pa_cons (pv 6) (pa_cons (pe_ix ix_tup (pv 0) (pe_ix ix_list (pv 4) (pe_un un_neg pe_int) (fun _ _ => rfl)) (fun _ _ => rfl)) (pa_cons (pe_ix ix_list (pv 4) (pe_un un_neg pe_int) (fun _ _ => rfl)) (pa_cons (pe_listRg rfl (by rfl) B.list (prg_1 (by rfl) B.range (pv 1))) pa_nil))))))) pss_nil)
  (pss_cons (ps_if (PW.pt (pw_and (pt_cmp (pc_isN (pv 7)) rfl) (pw_and1 (pt_cmpR op_eq (pe_callB call_len_seq (by rfl) B.len PySem.boot_len (pa_cons (pv 4) pa_nil)) (pe_callB call_len_seq (by rfl) B.len PySem.boot_len (pa_cons (pv 3) pa_nil)) (nomark _))))) (pss_one (ps_ret (pe_tup (pa_cons (pv 5) (pa_cons (pe_tupleOf (by rfl) B.tuple (pv 4)) pa_nil))))) pss_nil)
  (pss_one (ps_if (pt_cmp (pc_isN (pv 7)) rfl) (pss_one (ps_expr (pe_bm PySem.F.plainAttrs_list PySem.F.slot_list_append PySem.F.type_list_append mt_append (pv 4) (pa_cons pe_int pa_nil)))) (pss_cons (ps_while PassesOwn.never (PW.pt (pw_and (pt_cmpR (op_neD (hu64 hr)) (pv 4) (pe_lst pa_nil) (nomark _)) (pw_and1 (pt_cmpR op_eq (pe_ix ix_list (pv 4) (pe_un un_neg pe_int) (fun _ _ => rfl)) (pe_op op_sub (pe_callB call_len_seq (by rfl) B.len PySem.boot_len (pa_cons (pv 0) pa_nil)) pe_int) (nomark _))))) (pss_one (ps_expr (pe_bm0 PySem.F.plainAttrs_list PySem.F.slot_list_pop PySem.F.type_list_pop mt_pop (pv 4)))))
  (pss_cons (ps_if (pt_cmpR (op_eqD (hu64 hr)) (pv 4) (pe_lst pa_nil) (nomark _)) (pss_one (ps_ret (pe_tup (pa_cons (pv 5) (pa_cons pe_non pa_nil))))) pss_nil)
  (pss_one (ps_expr (pe_bm PySem.F.plainAttrs_list PySem.F.slot_list_append PySem.F.type_list_append mt_append (pv 4) (pa_cons (pe_op op_add (pe_bm0 PySem.F.plainAttrs_list PySem.F.slot_list_pop PySem.F.type_list_pop mt_pop (pv 4)) pe_int) pa_nil)))))))))))))
  (pss_one (ps_ret pe_non)))))
end Hue
namespace Hue
open PySem PySem.Spec PyProof.Rows L2 DL
abbrev n__law_none : List Str := ["_law_demand_here", "_law_most", "_law_turn", "_law_many", "_law_told"]
theorem sc__law_none : FnScope n__law_none ["_law_demand_here", "_law_most"] (defScope (top 27)) := ⟨rfl, rfl, rfl, by decide +kernel, rfl, by decide +kernel, by decide +kernel⟩
theorem w__law_none {P : Program} {w : World} {K : PySem.W.Frag} {mg : Str → Option Value} {base : Heap} {f : Addr} {cdv : Value} {A : Around} {outer : List Env} {s : Shared} {H : Hp} {E : XK} {k : Nat} (hr : Room k (A.deeper (envOfC "_law_none" (defScope (top 27)) s.heap.objs.size f cdv))) (B : Blt mg) {S__law_naive : Sp} (D__law_naive : Df P w K mg base k "_law_naive" ["_law_demand_here", "_law_many", "_law_most"] S__law_naive) :
    PSs (cxOf CX0 P w K mg base n__law_none "_law_none" (defScope (top 27)) f cdv A outer s H E).nox (defBody (top 27)) (t__law_none K S__law_naive) :=
  (pss_cons (ps_for PassesOwn.never rfl (pi_range1 (by rfl) B.range (pa_cons (pe_op op_add (pe_callB call_len_seq (by rfl) B.len PySem.boot_len (pa_cons (pv 0) pa_nil)) pe_int) pa_nil)) (pg_name (i := 2) sc__law_none.nd rfl (by first | exact Or.inl rfl | exact Or.inr rfl)) (pss_cons (ps_for PassesOwn.never rfl (pi_range2 (by rfl) B.range (pa_cons pe_int (pa_cons pe_int pa_nil))) (pg_name (i := 3) sc__law_none.nd rfl (by first | exact Or.inl rfl | exact Or.inr rfl)) (pss_cons (ps_set (i := 4) sc__law_none.nd rfl (by first | exact Or.inl rfl | exact Or.inr rfl) (pe_df D__law_naive hr rfl (pa_cons (pv 0) (pa_cons (pv 3) (pa_cons (pv 1) pa_nil)))))
  (pss_one (ps_if (PW.pt (pw_and (pt_cmp (pc_notN (pv 4)) rfl) (pw_and1 (pt_cmp (pc_isN (pe_ix ix_tup (pv 4) pe_int (fun _ _ => rfl))) rfl)))) (pss_one (ps_ret (pe_tup (pa_cons (pv 0) (pa_cons (pv 3) pa_nil))))) pss_nil))))
  (pss_one (ps_set (i := 0) sc__law_none.nd rfl (by first | exact Or.inl rfl | exact Or.inr rfl) (pe_op op_catA (pe_op op_catA (pe_slice sl_tupA (pv 0) po_none (po_some (pv 2))) (pe_tup (pa_cons (pe_tup (pa_cons pe_int (pa_cons (pe_tup (pa_cons (pe_tup (pa_cons pe_int (pa_cons pe_int pa_nil))) pa_nil)) pa_nil))) pa_nil))) (pe_slice sl_tupA (pv 0) (po_some (pe_op op_add (pv 2) pe_int)) po_none))))))
  (pss_one (ps_ret (pe_tup (pa_cons (pv 0) (pa_cons pe_int pa_nil))))))
end Hue
namespace Hue
open PySem PySem.Spec PyProof.Rows L2 DL
abbrev n__law_orders : List Str := ["_law_many", "_law_rows", "_law_spot", "_law_more", "_law_row", "_law_one"]
theorem sc__law_orders : FnScope n__law_orders ["_law_many"] (defScope (top 28)) := ⟨rfl, rfl, rfl, by decide +kernel, rfl, by decide +kernel, by decide +kernel⟩
theorem w__law_orders {P : Program} {w : World} {K : PySem.W.Frag} {mg : Str → Option Value} {base : Heap} {f : Addr} {cdv : Value} {A : Around} {outer : List Env} {s : Shared} {H : Hp} {E : XK} {k : Nat} (hr : Room k (A.deeper (envOfC "_law_orders" (defScope (top 28)) s.heap.objs.size f cdv))) (B : Blt mg) :
    PSs (cxOf CX0 P w K mg base n__law_orders "_law_orders" (defScope (top 28)) f cdv A outer s H E).nox (defBody (top 28)) (t__law_orders K) :=
  (pss_cons (ps_set (i := 1) sc__law_orders.nd rfl (by first | exact Or.inl rfl | exact Or.inr rfl) (pe_lst (pa_cons (pe_tup pa_nil) pa_nil)))
  (pss_cons (ps_for PassesOwn.never rfl (pi_range1 (by rfl) B.range (pa_cons (pv 0) pa_nil)) (pg_name (i := 2) sc__law_orders.nd rfl (by first | exact Or.inl rfl | exact Or.inr rfl)) (pss_cons (ps_set (i := 3) sc__law_orders.nd rfl (by first | exact Or.inl rfl | exact Or.inr rfl) (pe_lst pa_nil))
  (pss_cons (ps_for PassesOwn.never rfl (pi_list (pv 1)) (pg_name (i := 4) sc__law_orders.nd rfl (by first | exact Or.inl rfl | exact Or.inr rfl)) (pss_one (ps_set (i := 3) sc__law_orders.nd rfl (by first | exact Or.inl rfl | exact Or.inr rfl) (pe_op op_cat (pv 3) (pe_lc (own := [("_law_one", 5)]) rfl sc__law_orders.nd (pi_range1 (by rfl) B.range (pa_cons (pv 0) pa_nil)) (blkOk_by (own := [("_law_one", 5)]) (N := n__law_orders) (sc := (defScope (top 28))) (by decide +kernel)) (fun _ _ _ _ _ => (pg_name (i := 5) sc__law_orders.nd rfl (by first | exact Or.inl rfl | exact Or.inr rfl))) (fun _ _ _ _ _ => (pts_one (pt_cmpR op_notIn_seq (pv 5) (pv 4) (by rfl)))) (fun _ _ _ _ _ => (pe_op op_catA (pv 4) (pe_tup (pa_cons (pv 5) pa_nil)))))))))
  (pss_one (ps_set (i := 1) sc__law_orders.nd rfl (by first | exact Or.inl rfl | exact Or.inr rfl) (pv 3))))))
  (pss_one (ps_ret (pv 1)))))
end Hue
namespace Hue
open PySem PySem.Spec PyProof.Rows L2 DL
abbrev n__law_alike : List Str := ["_law_one", "_law_other", "_law_order"]
theorem sc__law_alike : FnScope n__law_alike ["_law_one", "_law_other"] (defScope (top 29)) := ⟨rfl, rfl, rfl, by decide +kernel, rfl, by decide +kernel, by decide +kernel⟩
theorem w__law_alike {P : Program} {w : World} {K : PySem.W.Frag} {mg : Str → Option Value} {base : Heap} {f : Addr} {cdv : Value} {A : Around} {outer : List Env} {s : Shared} {H : Hp} {E : XK} {k : Nat} (hr : Room k (A.deeper (envOfC "_law_alike" (defScope (top 29)) s.heap.objs.size f cdv))) (B : Blt mg) {S__law_orders : Sp} (D__law_orders : Df P w K mg base k "_law_orders" ["_law_many"] S__law_orders) {S__law_moved_web : Sp} (D__law_moved_web : Df P w K mg base k "_law_moved_web" ["_law_web_here", "_law_order"] S__law_moved_web) :
    PSs (cxOf CX0 P w K mg base n__law_alike "_law_alike" (defScope (top 29)) f cdv A outer s H E).nox (defBody (top 29)) (t__law_alike K S__law_orders S__law_moved_web) :=
  (pss_cons (ps_if (PW.pt (pw_or (pt_cmpR op_ne (pe_ix ix_tup (pv 0) pe_int (fun _ _ => rfl)) (pe_ix ix_tup (pv 1) pe_int (fun _ _ => rfl)) (nomark _)) (pw_or1 (pt_cmpR op_ne (pe_callB call_len_seq (by rfl) B.len PySem.boot_len (pa_cons (pe_ix ix_tup (pv 0) pe_int (fun _ _ => rfl)) pa_nil)) (pe_callB call_len_seq (by rfl) B.len PySem.boot_len (pa_cons (pe_ix ix_tup (pv 1) pe_int (fun _ _ => rfl)) pa_nil)) (nomark _))))) (pss_one (ps_ret pe_bl)) pss_nil)
  (pss_one (ps_ret (pe_cmpR (op_neD (hu64 hr)) (pe_lc (own := [("_law_order", 2)]) rfl sc__law_alike.nd (pi_list (pe_df D__law_orders hr rfl (pa_cons (pe_ix ix_tup (pv 0) pe_int (fun _ _ => rfl)) pa_nil))) (blkOk_by (own := [("_law_order", 2)]) (N := n__law_alike) (sc := (defScope (top 29))) (by decide +kernel)) (fun _ _ _ _ _ => (pg_name (i := 2) sc__law_alike.nd rfl (by first | exact Or.inl rfl | exact Or.inr rfl))) (fun _ _ _ _ _ => (pts_one (pt_cmpR (op_eqD (hu64 hr)) (pe_df D__law_moved_web hr rfl (pa_cons (pv 0) (pa_cons (pv 2) pa_nil))) (pv 1) (nomark _)))) (fun _ _ _ _ _ => (pv 2))) (pe_lst pa_nil) (nomark _)))))
end Hue
namespace Hue
open PySem PySem.Spec PyProof.Rows L2 DL
abbrev n__law_swaps : List Str := ["_law_demand_here", "_law_kinds", "_law_web_here", "_law_k", "_law_row"]
theorem sc__law_swaps : FnScope n__law_swaps ["_law_demand_here"] (defScope (top 30)) := ⟨rfl, rfl, rfl, by decide +kernel, rfl, by decide +kernel, by decide +kernel⟩
theorem w__law_swaps {P : Program} {w : World} {K : PySem.W.Frag} {mg : Str → Option Value} {base : Heap} {f : Addr} {cdv : Value} {A : Around} {outer : List Env} {s : Shared} {H : Hp} {E : XK} {k : Nat} (hr : Room k (A.deeper (envOfC "_law_swaps" (defScope (top 30)) s.heap.objs.size f cdv))) (B : Blt mg) {S__law_orders : Sp} (D__law_orders : Df P w K mg base k "_law_orders" ["_law_many"] S__law_orders) {S__law_alike : Sp} (D__law_alike : Df P w K mg base k "_law_alike" ["_law_one", "_law_other"] S__law_alike) :
    PSs (cxOf CX0 P w K mg base n__law_swaps "_law_swaps" (defScope (top 30)) f cdv A outer s H E).nox (defBody (top 30)) (t__law_swaps K S__law_orders S__law_alike) :=
  (pss_cons (ps_set (i := 1) sc__law_swaps.nd rfl (by first | exact Or.inl rfl | exact Or.inr rfl) (pe_lst pa_nil))
  (pss_cons (ps_for PassesOwn.never rfl (pi_tup (pv 0)) (pg_name (i := 2) sc__law_swaps.nd rfl (by first | exact Or.inl rfl | exact Or.inr rfl)) (pss_one (ps_expr (pe_bm PySem.F.plainAttrs_list PySem.F.slot_list_append PySem.F.type_list_append mt_append (pv 1) (pa_cons (pe_ix ix_list (pe_lc (own := [("_law_k", 3)]) rfl sc__law_swaps.nd (pi_range1 (by rfl) B.range (pa_cons (pe_callB call_len_seq (by rfl) B.len PySem.boot_len (pa_cons (pv 0) pa_nil)) pa_nil)) (blkOk_by (own := [("_law_k", 3)]) (N := n__law_swaps) (sc := (defScope (top 30))) (by decide +kernel)) (fun _ _ _ _ _ => (pg_name (i := 3) sc__law_swaps.nd rfl (by first | exact Or.inl rfl | exact Or.inr rfl))) (fun _ _ _ _ _ => (pts_one (pt_val (pe_df D__law_alike hr rfl (pa_cons (pe_ix ix_tup (pv 0) (pv 3) (fun _ _ => rfl)) (pa_cons (pv 2) pa_nil)))))) (fun _ _ _ _ _ => (pv 3))) pe_int (fun _ _ => rfl)) pa_nil)))))
  (pss_one (ps_ret (pe_lc (own := [("_law_row", 4)]) rfl sc__law_swaps.nd (pi_list (pe_df D__law_orders hr rfl (pa_cons (pe_callB call_len_seq (by rfl) B.len PySem.boot_len (pa_cons (pv 0) pa_nil)) pa_nil))) (blkOk_by (own := [("_law_row", 4)]) (N := n__law_swaps) (sc := (defScope (top 30))) (by decide +kernel)) (fun _ _ _ _ _ => (pg_name (i := 4) sc__law_swaps.nd rfl (by first | exact Or.inl rfl | exact Or.inr rfl))) (fun _ _ _ _ _ => (pts_one (pt_cmpR (op_eqD (hu64 hr)) (pe_lc (own := [("_law_k", 3)]) rfl sc__law_swaps.nd (pi_tup (pv 4)) (blkOk_by (own := [("_law_k", 3)]) (by show blkC n__law_swaps (L2.relS _ (defScope (top 30))) _ _ = true; decide +kernel)) (fun _ _ _ _ _ => (pg_name (i := 3) sc__law_swaps.nd rfl (by first | exact Or.inl rfl | exact Or.inr rfl))) (fun _ _ _ _ _ => pts_nil) (fun _ _ _ _ _ => (pe_ix ix_list (pv 1) (pv 3) (fun _ _ => rfl)))) (pv 1) (nomark _)))) (fun _ _ _ _ _ => (pv 4)))))))
end Hue
namespace Hue
open PySem PySem.Spec PyProof.Rows L2 DL
abbrev n__law_like : List Str := ["_law_work", "_law_case", "_law_demand_here", "_law_points_here", "_law_many", "_law_swaps_here", "_law_orders_here", "_law_ends", "_law_number", "_law_old", "_law_order", "_law_full", "_law_spot", "_law_swap", "_law_a", "_law_b"]
theorem sc__law_like : FnScope n__law_like ["_law_work", "_law_case"] (defScope (top 31)) := ⟨rfl, rfl, rfl, by decide +kernel, rfl, by decide +kernel, by decide +kernel⟩
theorem w__law_like {P : Program} {w : World} {K : PySem.W.Frag} {mg : Str → Option Value} {base : Heap} {f : Addr} {cdv : Value} {A : Around} {outer : List Env} {s : Shared} {H : Hp} {E : XK} {k : Nat} (hr : Room k (A.deeper (envOfC "_law_like" (defScope (top 31)) s.heap.objs.size f cdv))) (B : Blt mg) {S__law_hue : Sp} (D__law_hue : Df P w K mg base k "_law_hue" ["_law_case", "_law_one", "_law_other"] S__law_hue) :
    PSs (cxOf CX0 P w K mg base n__law_like "_law_like" (defScope (top 31)) f cdv A outer s H E).nox (defBody (top 31)) (t__law_like K S__law_hue) :=
  (pss_cons (ps_asg (pe_slice sl_list (pv 0) po_none (po_some pe_int)) (pg_unl rfl (pgs_cons (pg_name (i := 2) sc__law_like.nd rfl (by first | exact Or.inl rfl | exact Or.inr rfl)) (pgs_cons (pg_name (i := 3) sc__law_like.nd rfl (by first | exact Or.inl rfl | exact Or.inr rfl)) (pgs_cons (pg_name (i := 4) sc__law_like.nd rfl (by first | exact Or.inl rfl | exact Or.inr rfl)) (pgs_cons (pg_name (i := 5) sc__law_like.nd rfl (by first | exact Or.inl rfl | exact Or.inr rfl)) (pgs_cons (pg_name (i := 6) sc__law_like.nd rfl (by first | exact Or.inl rfl | exact Or.inr rfl)) (pgs_cons (pg_name (i := 7) sc__law_like.nd rfl (by first | exact Or.inl rfl | exact Or.inr rfl)) pgs_nil))))))))
  (pss_cons (ps_for PassesOwn.never rfl (pi_list (pv 7)) (pg_tup rfl (pgs_cons (pg_name (i := 8) sc__law_like.nd rfl (by first | exact Or.inl rfl | exact Or.inr rfl)) (pgs_cons (pg_name (i := 9) sc__law_like.nd rfl (by first | exact Or.inl rfl | exact Or.inr rfl)) pgs_nil))) (pss_one (ps_for PassesOwn.never rfl (pi_list (pe_op op_rep (pv 6) (pe_callTy call_int1 (by rfl) B.int (by decide +kernel) (pa_cons (pe_cmpR op_eq (pe_callB call_len_dT (by rfl) B.len PySem.boot_len (pa_cons (pv 9) pa_nil)) (pe_callB call_len_dT (by rfl) B.len PySem.boot_len (pa_cons (pv 1) pa_nil)) (nomark _)) pa_nil)))) (pg_name (i := 10) sc__law_like.nd rfl (by first | exact Or.inl rfl | exact Or.inr rfl)) (pss_cons (ps_set (i := 11) sc__law_like.nd rfl (by first | exact Or.inl rfl | exact Or.inr rfl) (pe_listRg rfl (by rfl) B.list (prg_1 (by rfl) B.range (pv 4))))
  (pss_cons (ps_for PassesOwn.never rfl (pi_range1 (by rfl) B.range (pa_cons (pe_callB call_len_seq (by rfl) B.len PySem.boot_len (pa_cons (pv 3) pa_nil)) pa_nil)) (pg_name (i := 12) sc__law_like.nd rfl (by first | exact Or.inl rfl | exact Or.inr rfl)) (pss_one (ps_asg (pe_ix ix_list (pv 3) (pe_ix ix_tup (pv 10) (pv 12) (fun _ _ => rfl)) (fun _ _ => rfl)) (pg_sub (pv 11) (pe_ix ix_list (pv 3) (pv 12) (fun _ _ => rfl)) set_list))))
  (pss_one (ps_for PassesOwn.never rfl (pi_list (pv 5)) (pg_name (i := 13) sc__law_like.nd rfl (by first | exact Or.inl rfl | exact Or.inr rfl)) (pss_one (ps_if (pt_val (pe_callB (cr_all rfl) (by rfl) B.all (by decide +kernel) (pa_cons (pe_lc (own := [("_law_a", 14), ("_law_b", 15)]) rfl sc__law_like.nd (pi_list (pe_callTy (call_list_dT rfl) (by rfl) B.list (by decide +kernel) (pa_cons (pv 9) pa_nil))) (blkOk_by (own := [("_law_a", 14), ("_law_b", 15)]) (N := n__law_like) (sc := (defScope (top 31))) (by decide +kernel)) (fun _ _ _ _ _ => (pg_tup rfl (pgs_cons (pg_name (i := 14) sc__law_like.nd rfl (by first | exact Or.inl rfl | exact Or.inr rfl)) (pgs_cons (pg_name (i := 15) sc__law_like.nd rfl (by first | exact Or.inl rfl | exact Or.inr rfl)) pgs_nil)))) (fun _ _ _ _ _ => pts_nil) (fun _ _ _ _ _ => (pe_cmpR op_eq (pe_df D__law_hue hr rfl (pa_cons (pv 1) (pa_cons (pe_ix ix_list (pv 11) (pv 14) (fun _ _ => rfl)) (pa_cons (pe_ix ix_list (pv 11) (pv 15) (fun _ _ => rfl)) pa_nil)))) (pe_ix ix_tup (pv 13) (pe_dget (hu_of hr) (pv 9) (pe_tup (pa_cons (pv 14) (pa_cons (pv 15) pa_nil))) (fun _ _ => rfl)) (fun _ _ => rfl)) (nomark _)))) pa_nil))) (pss_one (ps_ret (pe_tup (pa_cons pe_str (pa_cons (pv 8) (pa_cons (pe_tupleOf (by rfl) B.tuple (pv 11)) (pa_cons (pv 13) pa_nil))))))) pss_nil)))))))))
  (pss_one (ps_ret pe_non))))
end Hue
namespace Hue
open PySem PySem.Spec PyProof.Rows L2 DL
abbrev n__law_grown : List Str := ["_law_bag_here", "_law_work", "_law_case", "_law_hue_here", "_law_demand_here", "_law_points_here", "_law_many", "_law_swaps_here", "_law_orders_here", "_law_ends", "_law_number", "_law_tree_here", "_law_group_here", "_law_pairs", "_law_left", "_law_trees", "_law_colour", "_law_inner", "_law_a", "_law_b"]
theorem sc__law_grown : FnScope n__law_grown ["_law_bag_here", "_law_work", "_law_case", "_law_hue_here"] (defScope (top 32)) := ⟨rfl, rfl, rfl, by decide +kernel, rfl, by decide +kernel, by decide +kernel⟩
theorem w__law_grown {P : Program} {w : World} {K : PySem.W.Frag} {mg : Str → Option Value} {base : Heap} {f : Addr} {cdv : Value} {A : Around} {outer : List Env} {s : Shared} {H : Hp} {E : XK} {k : Nat} (hr : Room k (A.deeper (envOfC "_law_grown" (defScope (top 32)) s.heap.objs.size f cdv))) (B : Blt mg) {S__law_grown : Sp} (D__law_grown : Df P w K mg base k "_law_grown" ["_law_bag_here", "_law_work", "_law_case", "_law_hue_here"] S__law_grown) {S__law_hue : Sp} (D__law_hue : Df P w K mg base k "_law_hue" ["_law_case", "_law_one", "_law_other"] S__law_hue) {S__law_ties : Sp} (D__law_ties : Df P w K mg base k "_law_ties" ["_law_many"] S__law_ties) {S__law_draw : Sp} (D__law_draw : Df P w K mg base k "_law_draw" ["_law_bag_here", "_law_many"] S__law_draw) {S__law_like : Sp} (D__law_like : Df P w K mg base k "_law_like" ["_law_work", "_law_case"] S__law_like) {S__law_group : Sp} (D__law_group : Df P w K mg base k "_law_group" ["_law_case", "_law_web_here", "_law_colour", "_law_points_here"] S__law_group) :
    PSs (cxOf CX0 P w K mg base n__law_grown "_law_grown" (defScope (top 32)) f cdv A outer s H E).nox (defBody (top 32)) (t__law_grown K S__law_grown S__law_hue S__law_ties S__law_draw S__law_like S__law_group) :=
  (pss_cons (ps_asg (pe_slice sl_list (pv 1) po_none (po_some pe_int)) (pg_unl rfl (pgs_cons (pg_name (i := 4) sc__law_grown.nd rfl (by first | exact Or.inl rfl | exact Or.inr rfl)) (pgs_cons (pg_name (i := 5) sc__law_grown.nd rfl (by first | exact Or.inl rfl | exact Or.inr rfl)) (pgs_cons (pg_name (i := 6) sc__law_grown.nd rfl (by first | exact Or.inl rfl | exact Or.inr rfl)) (pgs_cons (pg_name (i := 7) sc__law_grown.nd rfl (by first | exact Or.inl rfl | exact Or.inr rfl)) (pgs_cons (pg_name (i := 8) sc__law_grown.nd rfl (by first | exact Or.inl rfl | exact Or.inr rfl)) (pgs_cons (pg_name (i := 9) sc__law_grown.nd rfl (by first | exact Or.inl rfl | exact Or.inr rfl)) pgs_nil))))))))
  (pss_cons (ps_set (i := 10) sc__law_grown.nd rfl (by first | exact Or.inl rfl | exact Or.inr rfl) (pe_ix ix_list (pv 1) pe_int (fun _ _ => rfl)))
  (pss_cons (ps_asg (pe_op op_add (pv 10) pe_int) (pg_sub (pv 1) pe_int set_list))
  (pss_cons (ps_set (i := 11) sc__law_grown.nd rfl (by first | exact Or.inl rfl | exact Or.inr rfl) pe_non)
  (pss_cons (ps_set (i := 12) sc__law_grown.nd rfl (by first | exact Or.inl rfl | exact Or.inr rfl) pe_non)
  (pss_cons (ps_if (pt_cmpR (op_neDT (hu65 hr)) (pv 2) pe_dnewT (nomark _)) (pss_cons (ps_set (i := 12) sc__law_grown.nd rfl (by first | exact Or.inl rfl | exact Or.inr rfl) (pe_df D__law_group hr rfl (pa_cons (pv 2) (pa_cons (pe_ix ix_tup (pv 4) (pv 3) (fun _ _ => rfl)) (pa_cons (pv 3) (pa_cons (pv 5) pa_nil))))))
  (pss_one (ps_set (i := 11) sc__law_grown.nd rfl (by first | exact Or.inl rfl | exact Or.inr rfl) (pe_ifExp (PW.pt (pw_and (pt_cmpR op_lt (pe_callB call_len_dT (by rfl) B.len PySem.boot_len (pa_cons (pv 2) pa_nil)) pe_int (nomark _)) (pw_and (pt_cmp (pc_isN (pv 12)) rfl) (pw_and1 (pt_cmpR op_gt (pe_df D__law_draw hr rfl (pa_cons (pv 0) (pa_cons pe_int pa_nil))) pe_int (nomark _)))))) (pe_df D__law_like hr rfl (pa_cons (pv 1) (pa_cons (pv 2) pa_nil))) pe_non)))) pss_nil)
  (pss_cons (ps_if (pt_cmp (pc_notN (pv 12)) rfl) (pss_one (ps_set (i := 11) sc__law_grown.nd rfl (by first | exact Or.inl rfl | exact Or.inr rfl) (pe_tup (pa_cons pe_str (pa_cons (pv 3) (pa_cons (pv 12) pa_nil)))))) pss_nil)
  (pss_cons (ps_if (pt_cmp (pc_isN (pv 11)) rfl) (pss_cons (ps_setLc (i := 13) (own := [("_law_a", 18), ("_law_b", 19)]) rfl sc__law_grown.nd rfl rfl (sw_true rfl rfl rfl (by decide +kernel)) (pi_list (pe_df D__law_ties hr rfl (pa_cons (pe_callB call_len_seq (by rfl) B.len PySem.boot_len (pa_cons (pv 5) pa_nil)) pa_nil))) (blkOk_by (own := [("_law_a", 18), ("_law_b", 19)]) (N := n__law_grown) (sc := (defScope (top 32))) (by decide +kernel)) (fun _ _ _ _ _ => (pg_tup rfl (pgs_cons (pg_name (i := 18) sc__law_grown.nd rfl (by first | exact Or.inl rfl | exact Or.inr rfl)) (pgs_cons (pg_name (i := 19) sc__law_grown.nd rfl (by first | exact Or.inl rfl | exact Or.inr rfl)) pgs_nil)))) (fun _ _ _ _ _ => pts_nil) (fun _ _ _ _ _ => (pe_tup (pa_cons (pe_ix ix_list (pv 5) (pv 18) (fun _ _ => rfl)) (pa_cons (pe_ix ix_list (pv 5) (pv 19) (fun _ _ => rfl)) pa_nil)))))
  (pss_cons (ps_setLc (i := 14) (own := [("_law_a", 18), ("_law_b", 19)]) rfl sc__law_grown.nd rfl rfl (sw_true rfl rfl rfl (by decide +kernel)) (pi_list (pv 13)) (blkOk_by (own := [("_law_a", 18), ("_law_b", 19)]) (N := n__law_grown) (sc := (defScope (top 32))) (by decide +kernel)) (fun _ _ _ _ _ => (pg_tup rfl (pgs_cons (pg_name (i := 18) sc__law_grown.nd rfl (by first | exact Or.inl rfl | exact Or.inr rfl)) (pgs_cons (pg_name (i := 19) sc__law_grown.nd rfl (by first | exact Or.inl rfl | exact Or.inr rfl)) pgs_nil)))) (fun _ _ _ _ _ => (pts_one (pt_cmpR op_eq (pe_df D__law_hue hr rfl (pa_cons (pv 2) (pa_cons (pv 18) (pa_cons (pv 19) pa_nil)))) pe_int (nomark _)))) (fun _ _ _ _ _ => (pe_tup (pa_cons (pe_callB (call_min2 rfl) (by rfl) B.min (by decide +kernel) (pa_cons (pv 18) (pa_cons (pv 19) pa_nil))) (pa_cons (pe_callB (call_max2 rfl) (by rfl) B.max (by decide +kernel) (pa_cons (pv 18) (pa_cons (pv 19) pa_nil))) pa_nil)))))
  (pss_cons (ps_set (i := 15) sc__law_grown.nd rfl (by first | exact Or.inl rfl | exact Or.inr rfl) (pe_lst pa_nil))
  (pss_cons (ps_for PassesOwn.never rfl (pi_range1 (by rfl) B.range (pa_cons (pe_callB call_len_seq (by rfl) B.len PySem.boot_len (pa_cons (pv 4) pa_nil)) pa_nil)) (pg_name (i := 16) sc__law_grown.nd rfl (by first | exact Or.inl rfl | exact Or.inr rfl)) (pss_cons (ps_set (i := 17) sc__law_grown.nd rfl (by first | exact Or.inl rfl | exact Or.inr rfl) (pe_dictCopy rfl (hu65 hr) (by rfl) B.dict (pv 2)))
  (pss_cons (ps_dput (hu_of hr) (pv 17) (pe_ix ix_list (pv 14) pe_int (fun _ _ => rfl)) (pv 16) rfl)
  (pss_one (ps_expr (pe_bm PySem.F.plainAttrs_list PySem.F.slot_list_append PySem.F.type_list_append mt_append (pv 15) (pa_cons (pe_df D__law_grown hr rfl (pa_cons (pv 0) (pa_cons (pv 1) (pa_cons (pv 17) (pa_cons (pv 16) pa_nil))))) pa_nil)))))))
  (pss_one (ps_set (i := 11) sc__law_grown.nd rfl (by first | exact Or.inl rfl | exact Or.inr rfl) (pe_tup (pa_cons pe_str (pa_cons (pe_ix ix_list (pv 14) pe_int (fun _ _ => rfl)) (pa_cons (pe_tupleOf (by rfl) B.tuple (pv 15)) pa_nil)))))))))) pss_nil)
  (pss_cons (ps_if (pt_chain op_lt op_lt pe_int (pe_callB call_len_dT (by rfl) B.len PySem.boot_len (pa_cons (pv 2) pa_nil)) pe_int) (pss_one (ps_expr (pe_bm PySem.F.plainAttrs_list PySem.F.slot_list_append PySem.F.type_list_append mt_append (pv 9) (pa_cons (pe_tup (pa_cons (pv 10) (pa_cons (pe_dictCopy rfl (hu65 hr) (by rfl) B.dict (pv 2)) pa_nil))) pa_nil)))) pss_nil)
  (pss_one (ps_ret (pv 11))))))))))))
end Hue
namespace Hue
open PySem PySem.Spec PyProof.Rows L2 DL
abbrev n__law_tree : List Str := ["_law_bag_here", "_law_demand_here", "_law_few", "_law_many", "_law_points_here", "_law_swaps_here", "_law_orders_here"]
theorem sc__law_tree : FnScope n__law_tree ["_law_bag_here", "_law_demand_here", "_law_few", "_law_many"] (defScope (top 33)) := ⟨rfl, rfl, rfl, by decide +kernel, rfl, by decide +kernel, by decide +kernel⟩
theorem w__law_tree {P : Program} {w : World} {K : PySem.W.Frag} {mg : Str → Option Value} {base : Heap} {f : Addr} {cdv : Value} {A : Around} {outer : List Env} {s : Shared} {H : Hp} {E : XK} {k : Nat} (hr : Room k (A.deeper (envOfC "_law_tree" (defScope (top 33)) s.heap.objs.size f cdv))) (B : Blt mg) {S__law_grown : Sp} (D__law_grown : Df P w K mg base k "_law_grown" ["_law_bag_here", "_law_work", "_law_case", "_law_hue_here"] S__law_grown) {S__law_orders : Sp} (D__law_orders : Df P w K mg base k "_law_orders" ["_law_many"] S__law_orders) {S__law_swaps : Sp} (D__law_swaps : Df P w K mg base k "_law_swaps" ["_law_demand_here"] S__law_swaps) {S__law_turned : Sp} (D__law_turned : Df P w K mg base k "_law_turned" ["_law_bag_here", "_law_many"] S__law_turned) :
    PSs (cxOf CX0 P w K mg base n__law_tree "_law_tree" (defScope (top 33)) f cdv A outer s H E).nox (defBody (top 33)) (t__law_tree K S__law_grown S__law_orders S__law_swaps S__law_turned) :=
  (pss_cons (ps_set (i := 4) sc__law_tree.nd rfl (by first | exact Or.inl rfl | exact Or.inr rfl) (pe_slice sl_list (pe_df D__law_turned hr rfl (pa_cons (pv 0) (pa_cons (pv 3) pa_nil))) po_none (po_some (pv 2))))
  (pss_cons (ps_set (i := 5) sc__law_tree.nd rfl (by first | exact Or.inl rfl | exact Or.inr rfl) (pe_df D__law_swaps hr rfl (pa_cons (pv 1) pa_nil)))
  (pss_cons (ps_set (i := 6) sc__law_tree.nd rfl (by first | exact Or.inl rfl | exact Or.inr rfl) (pe_df D__law_orders hr rfl (pa_cons (pv 2) pa_nil)))
  (pss_cons (ps_if (pt_cmpR op_gt (pe_callB call_len_seq (by rfl) B.len PySem.boot_len (pa_cons (pv 1) pa_nil)) pe_int (nomark _)) (pss_one (ps_par (by rfl) sc__law_tree.nd rfl rfl (by decide) rfl rfl (pa_cons (pe_slice sl_list (pv 5) po_none (po_some pe_int)) (pa_cons (pe_slice sl_list (pv 6) po_none (po_some pe_int)) pa_nil)) (by rfl))) pss_nil)
  (pss_one (ps_ret (pe_df D__law_grown hr rfl (pa_cons (pv 0) (pa_cons (pe_lst (pa_cons (pv 1) (pa_cons (pv 4) (pa_cons (pv 3) (pa_cons (pv 5) (pa_cons (pv 6) (pa_cons (pe_lst pa_nil) (pa_cons pe_int pa_nil)))))))) (pa_cons pe_dnewT (pa_cons pe_int pa_nil)))))))))))
end Hue
namespace Hue
open PySem PySem.Spec PyProof.Rows L2 DL
abbrev n__law_spots : List Str := ["_law_tree_here", "_law_found", "_law_one"]
theorem sc__law_spots : FnScope n__law_spots ["_law_tree_here"] (defScope (top 34)) := ⟨rfl, rfl, rfl, by decide +kernel, rfl, by decide +kernel, by decide +kernel⟩
theorem w__law_spots {P : Program} {w : World} {K : PySem.W.Frag} {mg : Str → Option Value} {base : Heap} {f : Addr} {cdv : Value} {A : Around} {outer : List Env} {s : Shared} {H : Hp} {E : XK} {k : Nat} (hr : Room k (A.deeper (envOfC "_law_spots" (defScope (top 34)) s.heap.objs.size f cdv))) (B : Blt mg) {S__law_spots : Sp} (D__law_spots : Df P w K mg base k "_law_spots" ["_law_tree_here"] S__law_spots) :
    PSs (cxOf CX0 P w K mg base n__law_spots "_law_spots" (defScope (top 34)) f cdv A outer s H E).nox (defBody (top 34)) (t__law_spots K S__law_spots) :=
  (pss_cons (ps_set (i := 1) sc__law_spots.nd rfl (by first | exact Or.inl rfl | exact Or.inr rfl) (pe_lst (pa_cons (pv 0) pa_nil)))
  (pss_cons (ps_if (pt_cmpR op_eq (pe_ix ix_tup (pv 0) pe_int (fun _ _ => rfl)) pe_str (nomark _)) (pss_one (ps_for PassesOwn.never rfl (pi_tup (pe_ix ix_tup (pv 0) pe_int (fun _ _ => rfl))) (pg_name (i := 2) sc__law_spots.nd rfl (by first | exact Or.inl rfl | exact Or.inr rfl)) (pss_one (ps_set (i := 1) sc__law_spots.nd rfl (by first | exact Or.inl rfl | exact Or.inr rfl) (pe_op op_cat (pv 1) (pe_df D__law_spots hr rfl (pa_cons (pv 2) pa_nil))))))) pss_nil)
  (pss_one (ps_ret (pv 1)))))
end Hue
namespace Hue
open PySem PySem.Spec PyProof.Rows L2 DL
abbrev n__law_put : List Str := ["_law_tree_here", "_law_at", "_law_new", "_law_trees", "_law_one", "_law_size"]
theorem sc__law_put : FnScope n__law_put ["_law_tree_here", "_law_at", "_law_new"] (defScope (top 35)) := ⟨rfl, rfl, rfl, by decide +kernel, rfl, by decide +kernel, by decide +kernel⟩
theorem w__law_put {P : Program} {w : World} {K : PySem.W.Frag} {mg : Str → Option Value} {base : Heap} {f : Addr} {cdv : Value} {A : Around} {outer : List Env} {s : Shared} {H : Hp} {E : XK} {k : Nat} (hr : Room k (A.deeper (envOfC "_law_put" (defScope (top 35)) s.heap.objs.size f cdv))) (B : Blt mg) {S__law_put : Sp} (D__law_put : Df P w K mg base k "_law_put" ["_law_tree_here", "_law_at", "_law_new"] S__law_put) {S__law_spots : Sp} (D__law_spots : Df P w K mg base k "_law_spots" ["_law_tree_here"] S__law_spots) :
    PSs (cxOf CX0 P w K mg base n__law_put "_law_put" (defScope (top 35)) f cdv A outer s H E).nox (defBody (top 35)) (t__law_put K S__law_put S__law_spots) :=
  (pss_cons (ps_if (pt_cmpR op_eq (pv 1) pe_int (nomark _)) (pss_one (ps_ret (pv 2))) pss_nil)
  (pss_cons (ps_set (i := 3) sc__law_put.nd rfl (by first | exact Or.inl rfl | exact Or.inr rfl) (pe_lst pa_nil))
  (pss_cons (ps_set (i := 1) sc__law_put.nd rfl (by first | exact Or.inl rfl | exact Or.inr rfl) (pe_op op_sub (pv 1) pe_int))
  (pss_cons (ps_for PassesOwn.never rfl (pi_tup (pe_ix ix_tup (pv 0) pe_int (fun _ _ => rfl))) (pg_name (i := 4) sc__law_put.nd rfl (by first | exact Or.inl rfl | exact Or.inr rfl)) (pss_cons (ps_set (i := 5) sc__law_put.nd rfl (by first | exact Or.inl rfl | exact Or.inr rfl) (pe_callB call_len_seq (by rfl) B.len PySem.boot_len (pa_cons (pe_df D__law_spots hr rfl (pa_cons (pv 4) pa_nil)) pa_nil)))
  (pss_cons (ps_expr (pe_bm PySem.F.plainAttrs_list PySem.F.slot_list_append PySem.F.type_list_append mt_append (pv 3) (pa_cons (pe_ifExp (pt_chain op_le op_lt pe_int (pv 1) (pv 5)) (pe_df D__law_put hr rfl (pa_cons (pv 4) (pa_cons (pv 1) (pa_cons (pv 2) pa_nil)))) (pv 4)) pa_nil)))
  (pss_one (ps_set (i := 1) sc__law_put.nd rfl (by first | exact Or.inl rfl | exact Or.inr rfl) (pe_op op_sub (pv 1) (pv 5)))))))
  (pss_one (ps_ret (pe_tup (pa_cons pe_str (pa_cons (pe_ix ix_tup (pv 0) pe_int (fun _ _ => rfl)) (pa_cons (pe_tupleOf (by rfl) B.tuple (pv 3)) pa_nil))))))))))
end Hue
namespace Hue
open PySem PySem.Spec PyProof.Rows L2 DL
abbrev n__law_named : List Str := ["_law_bag_here", "_law_webs", "_law_rows", "_law_row", "_law_some", "_law_spot", "_law_web_here"]
theorem sc__law_named : FnScope n__law_named ["_law_bag_here"] (defScope (top 36)) := ⟨rfl, rfl, rfl, by decide +kernel, rfl, by decide +kernel, by decide +kernel⟩
theorem w__law_named {P : Program} {w : World} {K : PySem.W.Frag} {mg : Str → Option Value} {base : Heap} {f : Addr} {cdv : Value} {A : Around} {outer : List Env} {s : Shared} {H : Hp} {E : XK} {k : Nat} (hr : Room k (A.deeper (envOfC "_law_named" (defScope (top 36)) s.heap.objs.size f cdv))) (B : Blt mg) {S__law_moved_web : Sp} (D__law_moved_web : Df P w K mg base k "_law_moved_web" ["_law_web_here", "_law_order"] S__law_moved_web) {S__law_turned : Sp} (D__law_turned : Df P w K mg base k "_law_turned" ["_law_bag_here", "_law_many"] S__law_turned) {S__law_draw : Sp} (D__law_draw : Df P w K mg base k "_law_draw" ["_law_bag_here", "_law_many"] S__law_draw) :
    PSs (cxOf CX0 P w K mg base n__law_named "_law_named" (defScope (top 36)) f cdv A outer s H E).nox (defBody (top 36)) (t__law_named K S__law_moved_web S__law_turned S__law_draw) :=
  (pss_cons (ps_set (i := 1) sc__law_named.nd rfl (by first | exact Or.inl rfl | exact Or.inr rfl) (pe_lst (pa_cons (pe_tup (pa_cons pe_int (pa_cons (pe_tup (pa_cons (pe_tup (pa_cons pe_int (pa_cons pe_int pa_nil))) pa_nil)) pa_nil))) (pa_cons (pe_tup (pa_cons pe_int (pa_cons (pe_tup (pa_cons (pe_tup (pa_cons pe_int (pa_cons pe_int pa_nil))) (pa_cons (pe_tup (pa_cons pe_int (pa_cons pe_int pa_nil))) pa_nil))) pa_nil))) (pa_cons (pe_tup (pa_cons pe_int (pa_cons (pe_tup (pa_cons (pe_tup (pa_cons pe_int (pa_cons pe_int pa_nil))) (pa_cons (pe_tup (pa_cons pe_int (pa_cons pe_int pa_nil))) (pa_cons (pe_tup (pa_cons pe_int (pa_cons pe_int pa_nil))) pa_nil)))) pa_nil))) (pa_cons (pe_tup (pa_cons pe_int (pa_cons (pe_tup (pa_cons (pe_tup (pa_cons pe_int (pa_cons pe_int pa_nil))) (pa_cons (pe_tup (pa_cons pe_int (pa_cons pe_int pa_nil))) (pa_cons (pe_tup (pa_cons pe_int (pa_cons pe_int pa_nil))) pa_nil)))) pa_nil))) pa_nil))))))
  (pss_cons (ps_set (i := 1) sc__law_named.nd rfl (by first | exact Or.inl rfl | exact Or.inr rfl) (pe_op op_cat (pv 1) (pe_lst (pa_cons (pe_tup (pa_cons pe_int (pa_cons (pe_tup (pa_cons (pe_tup (pa_cons pe_int (pa_cons pe_int pa_nil))) (pa_cons (pe_tup (pa_cons pe_int (pa_cons pe_int pa_nil))) (pa_cons (pe_tup (pa_cons pe_int (pa_cons pe_int pa_nil))) (pa_cons (pe_tup (pa_cons pe_int (pa_cons pe_int pa_nil))) pa_nil))))) pa_nil))) (pa_cons (pe_tup (pa_cons pe_int (pa_cons (pe_tup (pa_cons (pe_tup (pa_cons pe_int (pa_cons pe_int pa_nil))) (pa_cons (pe_tup (pa_cons pe_int (pa_cons pe_int pa_nil))) (pa_cons (pe_tup (pa_cons pe_int (pa_cons pe_int pa_nil))) pa_nil)))) pa_nil))) pa_nil)))))
  (pss_cons (ps_set (i := 2) sc__law_named.nd rfl (by first | exact Or.inl rfl | exact Or.inr rfl) (pe_lst (pa_cons (pe_tup (pa_cons pe_int (pa_cons pe_int pa_nil))) (pa_cons (pe_tup (pa_cons pe_int (pa_cons pe_int pa_nil))) (pa_cons (pe_tup (pa_cons pe_int (pa_cons pe_int pa_nil))) (pa_cons (pe_tup (pa_cons pe_int (pa_cons pe_int pa_nil))) (pa_cons (pe_tup (pa_cons pe_int (pa_cons pe_int pa_nil))) (pa_cons (pe_tup (pa_cons pe_int (pa_cons pe_int pa_nil))) (pa_cons (pe_tup (pa_cons pe_int (pa_cons pe_int pa_nil))) (pa_cons (pe_tup (pa_cons pe_int (pa_cons pe_int (pa_cons pe_int pa_nil)))) (pa_cons (pe_tup (pa_cons pe_int (pa_cons pe_int (pa_cons pe_int pa_nil)))) (pa_cons (pe_tup (pa_cons pe_int (pa_cons pe_int (pa_cons pe_int (pa_cons pe_int pa_nil))))) (pa_cons (pe_tup (pa_cons pe_int (pa_cons pe_int (pa_cons pe_int pa_nil)))) (pa_cons (pe_tup (pa_cons pe_int pa_nil)) pa_nil))))))))))))))
  (pss_cons (ps_set (i := 3) sc__law_named.nd rfl (by first | exact Or.inl rfl | exact Or.inr rfl) (pe_ix ix_list (pv 2) (pe_df D__law_draw hr rfl (pa_cons (pv 0) (pa_cons pe_int pa_nil))) (fun _ _ => rfl)))
  (pss_cons (ps_setLc (i := 4) (own := [("_law_spot", 5)]) rfl sc__law_named.nd rfl rfl (sw_true rfl rfl rfl (by decide +kernel)) (pi_list (pe_df D__law_turned hr rfl (pa_cons (pv 0) (pa_cons (pe_callB call_len_seq (by rfl) B.len PySem.boot_len (pa_cons (pv 3) pa_nil)) pa_nil)))) (blkOk_by (own := [("_law_spot", 5)]) (N := n__law_named) (sc := (defScope (top 36))) (by decide +kernel)) (fun _ _ _ _ _ => (pg_name (i := 5) sc__law_named.nd rfl (by first | exact Or.inl rfl | exact Or.inr rfl))) (fun _ _ _ _ _ => pts_nil) (fun _ _ _ _ _ => (pe_ix ix_list (pv 1) (pe_ix ix_tup (pv 3) (pv 5) (fun _ _ => rfl)) (fun _ _ => rfl))))
  (pss_one (ps_ret (pe_tupleOf (by rfl) B.tuple (pe_lc (own := [("_law_web_here", 6)]) rfl sc__law_named.nd (pi_list (pv 4)) (blkOk_by (own := [("_law_web_here", 6)]) (N := n__law_named) (sc := (defScope (top 36))) (by decide +kernel)) (fun _ _ _ _ _ => (pg_name (i := 6) sc__law_named.nd rfl (by first | exact Or.inl rfl | exact Or.inr rfl))) (fun _ _ _ _ _ => pts_nil) (fun _ _ _ _ _ => (pe_df D__law_moved_web hr rfl (pa_cons (pv 6) (pa_cons (pe_df D__law_turned hr rfl (pa_cons (pv 0) (pa_cons (pe_ix ix_tup (pv 6) pe_int (fun _ _ => rfl)) pa_nil))) pa_nil)))))))))))))
end Hue
namespace Hue
open PySem PySem.Spec PyProof.Rows L2 DL
abbrev n__law_scene : List Str := ["_law_bag_here", "_law_colours", "_law_demand_here", "_law_few"]
theorem sc__law_scene : FnScope n__law_scene ["_law_bag_here"] (defScope (top 37)) := ⟨rfl, rfl, rfl, by decide +kernel, rfl, by decide +kernel, by decide +kernel⟩
theorem w__law_scene {P : Program} {w : World} {K : PySem.W.Frag} {mg : Str → Option Value} {base : Heap} {f : Addr} {cdv : Value} {A : Around} {outer : List Env} {s : Shared} {H : Hp} {E : XK} {k : Nat} (hr : Room k (A.deeper (envOfC "_law_scene" (defScope (top 37)) s.heap.objs.size f cdv))) (B : Blt mg) {S__law_draw : Sp} (D__law_draw : Df P w K mg base k "_law_draw" ["_law_bag_here", "_law_many"] S__law_draw) {S__law_none : Sp} (D__law_none : Df P w K mg base k "_law_none" ["_law_demand_here", "_law_most"] S__law_none) {S__law_named : Sp} (D__law_named : Df P w K mg base k "_law_named" ["_law_bag_here"] S__law_named) {S__law_demand : Sp} (D__law_demand : Df P w K mg base k "_law_demand" ["_law_bag_here", "_law_colours", "_law_most"] S__law_demand) :
    PSs (cxOf CX0 P w K mg base n__law_scene "_law_scene" (defScope (top 37)) f cdv A outer s H E).nox (defBody (top 37)) (t__law_scene K S__law_draw S__law_none S__law_named S__law_demand) :=
  (pss_cons (ps_set (i := 1) sc__law_scene.nd rfl (by first | exact Or.inl rfl | exact Or.inr rfl) (pe_ix ix_list (pe_lst (pa_cons pe_int (pa_cons pe_int (pa_cons pe_int (pa_cons pe_int (pa_cons pe_int (pa_cons pe_int (pa_cons pe_int pa_nil)))))))) (pe_df D__law_draw hr rfl (pa_cons (pv 0) (pa_cons pe_int pa_nil))) (fun _ _ => rfl)))
  (pss_cons (ps_set (i := 2) sc__law_scene.nd rfl (by first | exact Or.inl rfl | exact Or.inr rfl) (pe_df D__law_demand hr rfl (pa_cons (pv 0) (pa_cons (pv 1) (pa_cons (pe_ix ix_list (pe_lst (pa_cons pe_int (pa_cons pe_int (pa_cons pe_int pa_nil)))) (pe_df D__law_draw hr rfl (pa_cons (pv 0) (pa_cons pe_int pa_nil))) (fun _ _ => rfl)) pa_nil)))))
  (pss_cons (ps_if (pt_cmpR op_eq (pe_df D__law_draw hr rfl (pa_cons (pv 0) (pa_cons pe_int pa_nil))) pe_int (nomark _)) (pss_one (ps_set (i := 2) sc__law_scene.nd rfl (by first | exact Or.inl rfl | exact Or.inr rfl) (pe_df D__law_named hr rfl (pa_cons (pv 0) pa_nil)))) pss_nil)
  (pss_cons (ps_asg (pe_df D__law_none hr rfl (pa_cons (pv 2) (pa_cons pe_int pa_nil))) (pg_tup rfl (pgs_cons (pg_name (i := 2) sc__law_scene.nd rfl (by first | exact Or.inl rfl | exact Or.inr rfl)) (pgs_cons (pg_name (i := 3) sc__law_scene.nd rfl (by first | exact Or.inl rfl | exact Or.inr rfl)) pgs_nil))))
  (pss_one (ps_ret (pe_tup (pa_cons (pv 2) (pa_cons (pv 3) (pa_cons (pe_op op_add (pv 3) (pe_df D__law_draw hr rfl (pa_cons (pv 0) (pa_cons (pe_op op_sub pe_int (pv 3)) pa_nil)))) pa_nil))))))))))
end Hue
namespace Hue
open PySem PySem.Spec PyProof.Rows L2 DL
abbrev n__law_whole : List Str := ["_law_thing"]
theorem sc__law_whole : FnScope n__law_whole ["_law_thing"] (defScope (top 38)) := ⟨rfl, rfl, rfl, by decide +kernel, rfl, by decide +kernel, by decide +kernel⟩
theorem w__law_whole {P : Program} {w : World} {K : PySem.W.Frag} {mg : Str → Option Value} {base : Heap} {f : Addr} {cdv : Value} {A : Around} {outer : List Env} {s : Shared} {H : Hp} {E : XK} {k : Nat} (hr : Room k (A.deeper (envOfC "_law_whole" (defScope (top 38)) s.heap.objs.size f cdv))) (B : Blt mg) :
    PSs (cxOf CX0 P w K mg base n__law_whole "_law_whole" (defScope (top 38)) f cdv A outer s H E).nox (defBody (top 38)) (t__law_whole K) :=
  (pss_one (ps_ret (pe_and (pe_callB call_isi (by rfl) B.isinstance (by decide +kernel) (pa_cons (pv 0) (pa_cons (pe_bltn (v := .ty "int") (by rfl) B.int (by decide +kernel) rfl) pa_nil))) (pe_one (pe_not (pe_callB call_isi (by rfl) B.isinstance (by decide +kernel) (pa_cons (pv 0) (pa_cons (pe_bltn (v := .ty "bool") (by rfl) B.bool (by decide +kernel) rfl) pa_nil))))))))
end Hue
namespace Hue
open PySem PySem.Spec PyProof.Rows L2 DL
abbrev n__law_points : List Str := ["_law_many", "_law_thing", "_law_one"]
theorem sc__law_points : FnScope n__law_points ["_law_many", "_law_thing"] (defScope (top 39)) := ⟨rfl, rfl, rfl, by decide +kernel, rfl, by decide +kernel, by decide +kernel⟩
theorem w__law_points {P : Program} {w : World} {K : PySem.W.Frag} {mg : Str → Option Value} {base : Heap} {f : Addr} {cdv : Value} {A : Around} {outer : List Env} {s : Shared} {H : Hp} {E : XK} {k : Nat} (hr : Room k (A.deeper (envOfC "_law_points" (defScope (top 39)) s.heap.objs.size f cdv))) (B : Blt mg) {S__law_whole : Sp} (D__law_whole : Df P w K mg base k "_law_whole" ["_law_thing"] S__law_whole) :
    PSs (cxOf CX0 P w K mg base n__law_points "_law_points" (defScope (top 39)) f cdv A outer s H E).nox (defBody (top 39)) (t__law_points K S__law_whole) :=
  (pss_cons (ps_if (PW.pt (pw_or (pt_not (pt_val (pe_callB call_isi (by rfl) B.isinstance (by decide +kernel) (pa_cons (pv 1) (pa_cons (pe_bltn (v := .ty "tuple") (by rfl) B.tuple (by decide +kernel) rfl) pa_nil))))) (pw_or1 (pt_not (pt_val (pe_callB (cr_all rfl) (by rfl) B.all (by decide +kernel) (pa_cons (pe_lc (own := [("_law_one", 2)]) rfl sc__law_points.nd (pi_tup (pv 1)) (blkOk_by (own := [("_law_one", 2)]) (N := n__law_points) (sc := (defScope (top 39))) (by decide +kernel)) (fun _ _ _ _ _ => (pg_name (i := 2) sc__law_points.nd rfl (by first | exact Or.inl rfl | exact Or.inr rfl))) (fun _ _ _ _ _ => pts_nil) (fun _ _ _ _ _ => (pe_and (pe_df D__law_whole hr rfl (pa_cons (pv 2) pa_nil)) (pe_one (pe_chain op_le op_lt pe_int (pv 2) (pv 0)))))) pa_nil))))))) (pss_one (ps_ret pe_bl)) pss_nil)
  (pss_one (ps_ret (pe_cmpR op_eq (pe_lenSetT rfl B.len rfl B.set (pv 1)) (pe_callB call_len_seq (by rfl) B.len PySem.boot_len (pa_cons (pv 1) pa_nil)) (nomark _)))))
end Hue
namespace Hue
open PySem PySem.Spec PyProof.Rows L2 DL
abbrev n__law_group_fits : List Str := ["_law_demand_here", "_law_many", "_law_case", "_law_colour", "_law_group_here", "_law_a", "_law_b"]
theorem sc__law_group_fits : FnScope n__law_group_fits ["_law_demand_here", "_law_many", "_law_case", "_law_colour", "_law_group_here"] (defScope (top 40)) := ⟨rfl, rfl, rfl, by decide +kernel, rfl, by decide +kernel, by decide +kernel⟩
theorem w__law_group_fits {P : Program} {w : World} {K : PySem.W.Frag} {mg : Str → Option Value} {base : Heap} {f : Addr} {cdv : Value} {A : Around} {outer : List Env} {s : Shared} {H : Hp} {E : XK} {k : Nat} (hr : Room k (A.deeper (envOfC "_law_group_fits" (defScope (top 40)) s.heap.objs.size f cdv))) (B : Blt mg) {S__law_hue : Sp} (D__law_hue : Df P w K mg base k "_law_hue" ["_law_case", "_law_one", "_law_other"] S__law_hue) {S__law_points : Sp} (D__law_points : Df P w K mg base k "_law_points" ["_law_many", "_law_thing"] S__law_points) {S__law_whole : Sp} (D__law_whole : Df P w K mg base k "_law_whole" ["_law_thing"] S__law_whole) :
    PSs (cxOf CX0 P w K mg base n__law_group_fits "_law_group_fits" (defScope (top 40)) f cdv A outer s H E).nox (defBody (top 40)) (t__law_group_fits K S__law_hue S__law_points S__law_whole) :=
  (pss_cons (ps_if (PW.pt (pw_or (pt_not (pt_val (pe_df D__law_whole hr rfl (pa_cons (pv 3) pa_nil)))) (pw_or1 (pt_not (pt_chain op_le op_lt pe_int (pv 3) (pe_callB call_len_seq (by rfl) B.len PySem.boot_len (pa_cons (pv 0) pa_nil))))))) (pss_one (ps_ret pe_bl)) pss_nil)
  (pss_cons (ps_if (PW.pt (pw_or (pt_not (pt_val (pe_df D__law_points hr rfl (pa_cons (pv 1) (pa_cons (pv 4) pa_nil))))) (pw_or1 (pt_cmpR op_ne (pe_callB call_len_seq (by rfl) B.len PySem.boot_len (pa_cons (pv 4) pa_nil)) (pe_ix ix_tup (pe_ix ix_tup (pv 0) (pv 3) (fun _ _ => rfl)) pe_int (fun _ _ => rfl)) (nomark _))))) (pss_one (ps_ret pe_bl)) pss_nil)
  (pss_one (ps_ret (pe_callB (cr_all rfl) (by rfl) B.all (by decide +kernel) (pa_cons (pe_lc (own := [("_law_a", 5), ("_law_b", 6)]) rfl sc__law_group_fits.nd (pi_tup (pe_ix ix_tup (pe_ix ix_tup (pv 0) (pv 3) (fun _ _ => rfl)) pe_int (fun _ _ => rfl))) (blkOk_by (own := [("_law_a", 5), ("_law_b", 6)]) (N := n__law_group_fits) (sc := (defScope (top 40))) (by decide +kernel)) (fun _ _ _ _ _ => (pg_tup rfl (pgs_cons (pg_name (i := 5) sc__law_group_fits.nd rfl (by first | exact Or.inl rfl | exact Or.inr rfl)) (pgs_cons (pg_name (i := 6) sc__law_group_fits.nd rfl (by first | exact Or.inl rfl | exact Or.inr rfl)) pgs_nil)))) (fun _ _ _ _ _ => pts_nil) (fun _ _ _ _ _ => (pe_cmpR op_eq (pe_df D__law_hue hr rfl (pa_cons (pv 2) (pa_cons (pe_ix ix_tup (pv 4) (pv 5) (fun _ _ => rfl)) (pa_cons (pe_ix ix_tup (pv 4) (pv 6) (fun _ _ => rfl)) pa_nil)))) (pv 3) (nomark _)))) pa_nil))))))
end Hue
namespace Hue
open PySem PySem.Spec PyProof.Rows L2 DL
abbrev n__law_like_fits : List Str := ["_law_many", "_law_swaps_here", "_law_case", "_law_ends", "_law_row", "_law_word", "_law_number", "_law_points_here", "_law_swap", "_law_old", "_law_colour", "_law_a", "_law_b"]
theorem sc__law_like_fits : FnScope n__law_like_fits ["_law_many", "_law_swaps_here", "_law_case", "_law_ends", "_law_row"] (defScope (top 41)) := ⟨rfl, rfl, rfl, by decide +kernel, rfl, by decide +kernel, by decide +kernel⟩
theorem w__law_like_fits {P : Program} {w : World} {K : PySem.W.Frag} {mg : Str → Option Value} {base : Heap} {f : Addr} {cdv : Value} {A : Around} {outer : List Env} {s : Shared} {H : Hp} {E : XK} {k : Nat} (hr : Room k (A.deeper (envOfC "_law_like_fits" (defScope (top 41)) s.heap.objs.size f cdv))) (B : Blt mg) {S__law_hue : Sp} (D__law_hue : Df P w K mg base k "_law_hue" ["_law_case", "_law_one", "_law_other"] S__law_hue) {S__law_whole : Sp} (D__law_whole : Df P w K mg base k "_law_whole" ["_law_thing"] S__law_whole) {S__law_points : Sp} (D__law_points : Df P w K mg base k "_law_points" ["_law_many", "_law_thing"] S__law_points) :
    PSs (cxOf CX0 P w K mg base n__law_like_fits "_law_like_fits" (defScope (top 41)) f cdv A outer s H E).nox (defBody (top 41)) (t__law_like_fits K S__law_hue S__law_whole S__law_points) :=
  (pss_cons (ps_asg (pv 4) (pg_tup rfl (pgs_cons (pg_name (i := 5) sc__law_like_fits.nd rfl (by first | exact Or.inl rfl | exact Or.inr rfl)) (pgs_cons (pg_name (i := 6) sc__law_like_fits.nd rfl (by first | exact Or.inl rfl | exact Or.inr rfl)) (pgs_cons (pg_name (i := 7) sc__law_like_fits.nd rfl (by first | exact Or.inl rfl | exact Or.inr rfl)) (pgs_cons (pg_name (i := 8) sc__law_like_fits.nd rfl (by first | exact Or.inl rfl | exact Or.inr rfl)) pgs_nil))))))
  (pss_cons (ps_if (PW.pt (pw_or (pt_not (pt_val (pe_df D__law_whole hr rfl (pa_cons (pv 6) pa_nil)))) (pw_or (pt_not (pt_chain op_le op_lt pe_int (pv 6) (pe_callB call_len_seq (by rfl) B.len PySem.boot_len (pa_cons (pv 3) pa_nil)))) (pw_or1 (pt_cmp (pc_isN (pe_ix ix_list (pv 3) (pv 6) (fun _ _ => rfl))) rfl))))) (pss_one (ps_ret pe_bl)) pss_nil)
  (pss_cons (ps_if (PW.pt (pw_or (pt_not (pt_val (pe_df D__law_points hr rfl (pa_cons (pv 0) (pa_cons (pv 7) pa_nil))))) (pw_or1 (pt_cmpR op_ne (pe_callB call_len_seq (by rfl) B.len PySem.boot_len (pa_cons (pv 7) pa_nil)) (pv 0) (nomark _))))) (pss_one (ps_ret pe_bl)) pss_nil)
  (pss_cons (ps_if (PW.pt (pw_or (pt_not (pt_val (pe_callB call_isi (by rfl) B.isinstance (by decide +kernel) (pa_cons (pv 8) (pa_cons (pe_bltn (v := .ty "tuple") (by rfl) B.tuple (by decide +kernel) rfl) pa_nil))))) (pw_or (pt_not (pt_val (pe_callB (cr_all rfl) (by rfl) B.all (by decide +kernel) (pa_cons (pe_lc (own := [("_law_colour", 10)]) rfl sc__law_like_fits.nd (pi_tup (pv 8)) (blkOk_by (own := [("_law_colour", 10)]) (N := n__law_like_fits) (sc := (defScope (top 41))) (by decide +kernel)) (fun _ _ _ _ _ => (pg_name (i := 10) sc__law_like_fits.nd rfl (by first | exact Or.inl rfl | exact Or.inr rfl))) (fun _ _ _ _ _ => pts_nil) (fun _ _ _ _ _ => (pe_df D__law_whole hr rfl (pa_cons (pv 10) pa_nil)))) pa_nil)))) (pw_or1 (pt_cmpR (op_notInD (hu65 hr)) (pv 8) (pv 1) (by rfl)))))) (pss_one (ps_ret pe_bl)) pss_nil)
  (pss_cons (ps_set (i := 9) sc__law_like_fits.nd rfl (by first | exact Or.inl rfl | exact Or.inr rfl) (pe_ix ix_list (pv 3) (pv 6) (fun _ _ => rfl)))
  (pss_one (ps_ret (pe_callB (cr_all rfl) (by rfl) B.all (by decide +kernel) (pa_cons (pe_lc (own := [("_law_a", 11), ("_law_b", 12)]) rfl sc__law_like_fits.nd (pi_list (pe_callTy (call_list_dT rfl) (by rfl) B.list (by decide +kernel) (pa_cons (pv 9) pa_nil))) (blkOk_by (own := [("_law_a", 11), ("_law_b", 12)]) (N := n__law_like_fits) (sc := (defScope (top 41))) (by decide +kernel)) (fun _ _ _ _ _ => (pg_tup rfl (pgs_cons (pg_name (i := 11) sc__law_like_fits.nd rfl (by first | exact Or.inl rfl | exact Or.inr rfl)) (pgs_cons (pg_name (i := 12) sc__law_like_fits.nd rfl (by first | exact Or.inl rfl | exact Or.inr rfl)) pgs_nil)))) (fun _ _ _ _ _ => pts_nil) (fun _ _ _ _ _ => (pe_cmpR op_eq (pe_df D__law_hue hr rfl (pa_cons (pv 2) (pa_cons (pe_ix ix_tup (pv 7) (pv 11) (fun _ _ => rfl)) (pa_cons (pe_ix ix_tup (pv 7) (pv 12) (fun _ _ => rfl)) pa_nil)))) (pe_ix ix_tup (pv 8) (pe_dget (hu_of hr) (pv 9) (pe_tup (pa_cons (pv 11) (pa_cons (pv 12) pa_nil))) (fun _ _ => rfl)) (fun _ _ => rfl)) (nomark _)))) pa_nil)))))))))
end Hue
namespace Hue
open PySem PySem.Spec PyProof.Rows L2 DL
abbrev n__law_judged : List Str := ["_law_scene_here", "_law_tree_here", "_law_case", "_law_ends", "_law_demand_here", "_law_many", "_law_swaps_here", "_law_number", "_law_good", "_law_colour", "_law_inner"]
theorem sc__law_judged : FnScope n__law_judged ["_law_scene_here", "_law_tree_here", "_law_case", "_law_ends"] (defScope (top 42)) := ⟨rfl, rfl, rfl, by decide +kernel, rfl, by decide +kernel, by decide +kernel⟩
theorem w__law_judged {P : Program} {w : World} {K : PySem.W.Frag} {mg : Str → Option Value} {base : Heap} {f : Addr} {cdv : Value} {A : Around} {outer : List Env} {s : Shared} {H : Hp} {E : XK} {k : Nat} (hr : Room k (A.deeper (envOfC "_law_judged" (defScope (top 42)) s.heap.objs.size f cdv))) (B : Blt mg) {S__law_group_fits : Sp} (D__law_group_fits : Df P w K mg base k "_law_group_fits" ["_law_demand_here", "_law_many", "_law_case", "_law_colour", "_law_group_here"] S__law_group_fits) {S__law_like_fits : Sp} (D__law_like_fits : Df P w K mg base k "_law_like_fits" ["_law_many", "_law_swaps_here", "_law_case", "_law_ends", "_law_row"] S__law_like_fits) {S__law_judged : Sp} (D__law_judged : Df P w K mg base k "_law_judged" ["_law_scene_here", "_law_tree_here", "_law_case", "_law_ends"] S__law_judged) {S__law_points : Sp} (D__law_points : Df P w K mg base k "_law_points" ["_law_many", "_law_thing"] S__law_points) :
    PSs (cxOf CX0 P w K mg base n__law_judged "_law_judged" (defScope (top 42)) f cdv A outer s H E).nox (defBody (top 42)) (t__law_judged K S__law_group_fits S__law_like_fits S__law_judged S__law_points) :=
  (pss_cons (ps_asg (pv 0) (pg_tup rfl (pgs_cons (pg_name (i := 4) sc__law_judged.nd rfl (by first | exact Or.inl rfl | exact Or.inr rfl)) (pgs_cons (pg_name (i := 5) sc__law_judged.nd rfl (by first | exact Or.inl rfl | exact Or.inr rfl)) (pgs_cons (pg_name (i := 6) sc__law_judged.nd rfl (by first | exact Or.inl rfl | exact Or.inr rfl)) pgs_nil)))))
  (pss_cons (ps_set (i := 7) sc__law_judged.nd rfl (by first | exact Or.inl rfl | exact Or.inr rfl) (pe_callB call_len_seq (by rfl) B.len PySem.boot_len (pa_cons (pv 3) pa_nil)))
  (pss_cons (ps_expr (pe_bm PySem.F.plainAttrs_list PySem.F.slot_list_append PySem.F.type_list_append mt_append (pv 3) (pa_cons pe_non pa_nil)))
  (pss_cons (ps_set (i := 8) sc__law_judged.nd rfl (by first | exact Or.inl rfl | exact Or.inr rfl) (pe_and (pe_callB call_isi (by rfl) B.isinstance (by decide +kernel) (pa_cons (pv 1) (pa_cons (pe_bltn (v := .ty "tuple") (by rfl) B.tuple (by decide +kernel) rfl) pa_nil))) (pe_and (pe_cmpR op_gt (pe_callB call_len_seq (by rfl) B.len PySem.boot_len (pa_cons (pv 1) pa_nil)) pe_int (nomark _)) (pe_one (pe_callB call_isi (by rfl) B.isinstance (by decide +kernel) (pa_cons (pe_ix ix_tup (pv 1) pe_int (fun _ _ => rfl)) (pa_cons (pe_bltn (v := .ty "str") (by rfl) B.str (by decide +kernel) rfl) pa_nil)))))))
  (pss_cons (ps_if (PW.pt (pw_and (pt_val (pv 8)) (pw_and (pt_cmpR op_eq (pe_ix ix_tup (pv 1) pe_int (fun _ _ => rfl)) pe_str (nomark _)) (pw_and1 (pt_cmpR op_eq (pe_callB call_len_seq (by rfl) B.len PySem.boot_len (pa_cons (pv 1) pa_nil)) pe_int (nomark _)))))) (pss_one (ps_set (i := 8) sc__law_judged.nd rfl (by first | exact Or.inl rfl | exact Or.inr rfl) (pe_df D__law_group_fits hr rfl (pa_cons (pv 4) (pa_cons (pv 5) (pa_cons (pv 2) (pa_cons (pe_ix ix_tup (pv 1) pe_int (fun _ _ => rfl)) (pa_cons (pe_ix ix_tup (pv 1) pe_int (fun _ _ => rfl)) pa_nil)))))))) (pss_one (ps_if (PW.pt (pw_and (pt_val (pv 8)) (pw_and (pt_cmpR op_eq (pe_ix ix_tup (pv 1) pe_int (fun _ _ => rfl)) pe_str (nomark _)) (pw_and1 (pt_cmpR op_eq (pe_callB call_len_seq (by rfl) B.len PySem.boot_len (pa_cons (pv 1) pa_nil)) pe_int (nomark _)))))) (pss_one (ps_set (i := 8) sc__law_judged.nd rfl (by first | exact Or.inl rfl | exact Or.inr rfl) (pe_df D__law_like_fits hr rfl (pa_cons (pv 5) (pa_cons (pv 6) (pa_cons (pv 2) (pa_cons (pv 3) (pa_cons (pv 1) pa_nil)))))))) (pss_one (ps_if (PW.pt (pw_and (pt_val (pv 8)) (pw_and (pt_cmpR op_eq (pe_ix ix_tup (pv 1) pe_int (fun _ _ => rfl)) pe_str (nomark _)) (pw_and1 (pt_cmpR op_eq (pe_callB call_len_seq (by rfl) B.len PySem.boot_len (pa_cons (pv 1) pa_nil)) pe_int (nomark _)))))) (pss_cons (ps_set (i := 8) sc__law_judged.nd rfl (by first | exact Or.inl rfl | exact Or.inr rfl) (pe_and (pe_df D__law_points hr rfl (pa_cons (pv 5) (pa_cons (pe_ix ix_tup (pv 1) pe_int (fun _ _ => rfl)) pa_nil))) (pe_and (pe_cmpR op_eq (pe_callB call_len_seq (by rfl) B.len PySem.boot_len (pa_cons (pe_ix ix_tup (pv 1) pe_int (fun _ _ => rfl)) pa_nil)) pe_int (nomark _)) (pe_and (pe_cmpR op_lt (pe_ix ix_tup (pe_ix ix_tup (pv 1) pe_int (fun _ _ => rfl)) pe_int (fun _ _ => rfl)) (pe_ix ix_tup (pe_ix ix_tup (pv 1) pe_int (fun _ _ => rfl)) pe_int (fun _ _ => rfl)) (nomark _)) (pe_one (pe_cmp (pc_dnotin (hu_of hr) (pe_ix ix_tup (pv 1) pe_int (fun _ _ => rfl)) (pv 2)) rfl))))))
  (pss_cons (ps_set (i := 8) sc__law_judged.nd rfl (by first | exact Or.inl rfl | exact Or.inr rfl) (pe_and (pv 8) (pe_and (pe_callB call_isi (by rfl) B.isinstance (by decide +kernel) (pa_cons (pe_ix ix_tup (pv 1) pe_int (fun _ _ => rfl)) (pa_cons (pe_bltn (v := .ty "tuple") (by rfl) B.tuple (by decide +kernel) rfl) pa_nil))) (pe_one (pe_cmpR op_eq (pe_callB call_len_seq (by rfl) B.len PySem.boot_len (pa_cons (pe_ix ix_tup (pv 1) pe_int (fun _ _ => rfl)) pa_nil)) (pe_callB call_len_seq (by rfl) B.len PySem.boot_len (pa_cons (pv 4) pa_nil)) (nomark _))))))
  (pss_one (ps_for PassesOwn.never rfl (pi_range1 (by rfl) B.range (pa_cons (pe_op op_mulW (pe_callB call_len_seq (by rfl) B.len PySem.boot_len (pa_cons (pv 4) pa_nil)) (pe_callTy call_int1 (by rfl) B.int (by decide +kernel) (pa_cons (pv 8) pa_nil))) pa_nil)) (pg_name (i := 9) sc__law_judged.nd rfl (by first | exact Or.inl rfl | exact Or.inr rfl)) (pss_cons (ps_set (i := 10) sc__law_judged.nd rfl (by first | exact Or.inl rfl | exact Or.inr rfl) (pe_dictCopy rfl (hu65 hr) (by rfl) B.dict (pv 2)))
  (pss_cons (ps_dput (hu_of hr) (pv 10) (pe_ix ix_tup (pv 1) pe_int (fun _ _ => rfl)) (pv 9) rfl)
  (pss_one (ps_set (i := 8) sc__law_judged.nd rfl (by first | exact Or.inl rfl | exact Or.inr rfl) (pe_and (pv 8) (pe_one (pe_df D__law_judged hr rfl (pa_cons (pv 0) (pa_cons (pe_ix ix_tup (pe_ix ix_tup (pv 1) pe_int (fun _ _ => rfl)) (pv 9) (fun _ _ => rfl)) (pa_cons (pv 10) (pa_cons (pv 3) pa_nil))))))))))))))) (pss_one (ps_set (i := 8) sc__law_judged.nd rfl (by first | exact Or.inl rfl | exact Or.inr rfl) pe_bl)))))))
  (pss_cons (ps_asg (pe_dictCopy rfl (hu65 hr) (by rfl) B.dict (pv 2)) (pg_sub (pv 3) (pv 7) set_list))
  (pss_one (ps_ret (pv 8)))))))))
end Hue
namespace Hue
open PySem PySem.Spec PyProof.Rows L2 DL
abbrev n__law_is : List Str := ["_law_found", "_law_due"]
theorem sc__law_is : FnScope n__law_is ["_law_found", "_law_due"] (defScope (top 43)) := ⟨rfl, rfl, rfl, by decide +kernel, rfl, by decide +kernel, by decide +kernel⟩
theorem w__law_is {P : Program} {w : World} {K : PySem.W.Frag} {mg : Str → Option Value} {base : Heap} {f : Addr} {cdv : Value} {A : Around} {outer : List Env} {s : Shared} {H : Hp} {E : XK} {k : Nat} (hr : Room k (A.deeper (envOfC "_law_is" (defScope (top 43)) s.heap.objs.size f cdv))) (B : Blt mg) :
    PSs (cxOf CX0 P w K mg base n__law_is "_law_is" (defScope (top 43)) f cdv A outer s H E).nox (defBody (top 43)) (t__law_is K) :=
  (pss_one (ps_ret (pe_and (pe_callB call_isi (by rfl) B.isinstance (by decide +kernel) (pa_cons (pv 0) (pa_cons (pe_bltn (v := .ty "bool") (by rfl) B.bool (by decide +kernel) rfl) pa_nil))) (pe_one (pe_cmpR (op_eqD (hu64 hr)) (pv 0) (pv 1) (nomark _))))))
end Hue
namespace Hue
open PySem PySem.Spec PyProof.Rows L2 DL
abbrev n__law_leaf : List Str := ["_law_bag_here", "_law_many", "_law_colours", "_law_spots_here", "_law_leaves", "_law_group_here", "_law_one"]
theorem sc__law_leaf : FnScope n__law_leaf ["_law_bag_here", "_law_many", "_law_colours", "_law_spots_here"] (defScope (top 44)) := ⟨rfl, rfl, rfl, by decide +kernel, rfl, by decide +kernel, by decide +kernel⟩
theorem w__law_leaf {P : Program} {w : World} {K : PySem.W.Frag} {mg : Str → Option Value} {base : Heap} {f : Addr} {cdv : Value} {A : Around} {outer : List Env} {s : Shared} {H : Hp} {E : XK} {k : Nat} (hr : Room k (A.deeper (envOfC "_law_leaf" (defScope (top 44)) s.heap.objs.size f cdv))) (B : Blt mg) {S__law_turned : Sp} (D__law_turned : Df P w K mg base k "_law_turned" ["_law_bag_here", "_law_many"] S__law_turned) {S__law_draw : Sp} (D__law_draw : Df P w K mg base k "_law_draw" ["_law_bag_here", "_law_many"] S__law_draw) :
    PSs (cxOf CX0 P w K mg base n__law_leaf "_law_leaf" (defScope (top 44)) f cdv A outer s H E).nox (defBody (top 44)) (t__law_leaf K S__law_turned S__law_draw) :=
  (pss_cons (ps_setLc (i := 4) (own := [("_law_one", 6)]) rfl sc__law_leaf.nd rfl rfl (sw_true rfl rfl rfl (by decide +kernel)) (pi_list (pv 3)) (blkOk_by (own := [("_law_one", 6)]) (N := n__law_leaf) (sc := (defScope (top 44))) (by decide +kernel)) (fun _ _ _ _ _ => (pg_name (i := 6) sc__law_leaf.nd rfl (by first | exact Or.inl rfl | exact Or.inr rfl))) (fun _ _ _ _ _ => (pts_one (pt_cmpR op_ne (pe_ix ix_tup (pv 6) pe_int (fun _ _ => rfl)) pe_str (nomark _)))) (fun _ _ _ _ _ => (pv 6)))
  (pss_cons (ps_if (pt_cmpR op_gt (pe_df D__law_draw hr rfl (pa_cons (pv 0) (pa_cons pe_int pa_nil))) pe_int (nomark _)) (pss_one (ps_ret (pe_ix ix_list (pv 4) (pe_df D__law_draw hr rfl (pa_cons (pv 0) (pa_cons (pe_callB call_len_seq (by rfl) B.len PySem.boot_len (pa_cons (pv 4) pa_nil)) pa_nil))) (fun _ _ => rfl)))) pss_nil)
  (pss_cons (ps_if (pt_cmpR op_eq (pe_df D__law_draw hr rfl (pa_cons (pv 0) (pa_cons pe_int pa_nil))) pe_int (nomark _)) (pss_cons (ps_set (i := 5) sc__law_leaf.nd rfl (by first | exact Or.inl rfl | exact Or.inr rfl) (pe_slice sl_list (pe_df D__law_turned hr rfl (pa_cons (pv 0) (pa_cons (pv 1) pa_nil))) po_none (po_some (pe_op op_add pe_int (pe_df D__law_draw hr rfl (pa_cons (pv 0) (pa_cons pe_int pa_nil)))))))
  (pss_one (ps_ret (pe_tup (pa_cons pe_str (pa_cons (pe_df D__law_draw hr rfl (pa_cons (pv 0) (pa_cons (pv 2) pa_nil))) (pa_cons (pe_tupleOf (by rfl) B.tuple (pv 5)) pa_nil))))))) pss_nil)
  (pss_one (ps_ret (pe_tup (pa_cons pe_str (pa_cons (pe_df D__law_draw hr rfl (pa_cons (pv 0) (pa_cons (pe_callB call_len_seq (by rfl) B.len PySem.boot_len (pa_cons (pv 3) pa_nil)) pa_nil))) (pa_cons (pe_tupleOf (by rfl) B.tuple (pe_df D__law_turned hr rfl (pa_cons (pv 0) (pa_cons (pv 1) pa_nil)))) (pa_cons (pe_tupleOf (by rfl) B.tuple (pe_df D__law_turned hr rfl (pa_cons (pv 0) (pa_cons (pv 2) pa_nil)))) pa_nil))))))))))
end Hue
namespace Hue
open PySem PySem.Spec PyProof.Rows L2 DL
abbrev n__law_other_tree : List Str := ["_law_bag_here", "_law_tree_here", "_law_many", "_law_colours", "_law_spots_here", "_law_at", "_law_new", "_law_way", "_law_pair", "_law_hue_here"]
theorem sc__law_other_tree : FnScope n__law_other_tree ["_law_bag_here", "_law_tree_here", "_law_many", "_law_colours"] (defScope (top 45)) := ⟨rfl, rfl, rfl, by decide +kernel, rfl, by decide +kernel, by decide +kernel⟩
theorem w__law_other_tree {P : Program} {w : World} {K : PySem.W.Frag} {mg : Str → Option Value} {base : Heap} {f : Addr} {cdv : Value} {A : Around} {outer : List Env} {s : Shared} {H : Hp} {E : XK} {k : Nat} (hr : Room k (A.deeper (envOfC "_law_other_tree" (defScope (top 45)) s.heap.objs.size f cdv))) (B : Blt mg) {S__law_put : Sp} (D__law_put : Df P w K mg base k "_law_put" ["_law_tree_here", "_law_at", "_law_new"] S__law_put) {S__law_leaf : Sp} (D__law_leaf : Df P w K mg base k "_law_leaf" ["_law_bag_here", "_law_many", "_law_colours", "_law_spots_here"] S__law_leaf) {S__law_draw : Sp} (D__law_draw : Df P w K mg base k "_law_draw" ["_law_bag_here", "_law_many"] S__law_draw) {S__law_spots : Sp} (D__law_spots : Df P w K mg base k "_law_spots" ["_law_tree_here"] S__law_spots) :
    PSs (cxOf CX0 P w K mg base n__law_other_tree "_law_other_tree" (defScope (top 45)) f cdv A outer s H E).nox (defBody (top 45)) (t__law_other_tree K S__law_put S__law_leaf S__law_draw S__law_spots) :=
  (pss_cons (ps_set (i := 4) sc__law_other_tree.nd rfl (by first | exact Or.inl rfl | exact Or.inr rfl) (pe_df D__law_spots hr rfl (pa_cons (pv 1) pa_nil)))
  (pss_cons (ps_set (i := 5) sc__law_other_tree.nd rfl (by first | exact Or.inl rfl | exact Or.inr rfl) (pe_df D__law_draw hr rfl (pa_cons (pv 0) (pa_cons (pe_callB call_len_seq (by rfl) B.len PySem.boot_len (pa_cons (pv 4) pa_nil)) pa_nil))))
  (pss_cons (ps_set (i := 6) sc__law_other_tree.nd rfl (by first | exact Or.inl rfl | exact Or.inr rfl) (pe_ix ix_list (pv 4) (pe_df D__law_draw hr rfl (pa_cons (pv 0) (pa_cons (pe_callB call_len_seq (by rfl) B.len PySem.boot_len (pa_cons (pv 4) pa_nil)) pa_nil))) (fun _ _ => rfl)))
  (pss_cons (ps_set (i := 7) sc__law_other_tree.nd rfl (by first | exact Or.inl rfl | exact Or.inr rfl) (pe_df D__law_draw hr rfl (pa_cons (pv 0) (pa_cons pe_int pa_nil))))
  (pss_cons (ps_if (pt_cmpR op_eq (pv 7) pe_int (nomark _)) (pss_one (ps_set (i := 6) sc__law_other_tree.nd rfl (by first | exact Or.inl rfl | exact Or.inr rfl) (pe_df D__law_leaf hr rfl (pa_cons (pv 0) (pa_cons (pv 2) (pa_cons (pv 3) (pa_cons (pv 4) pa_nil))))))) pss_nil)
  (pss_cons (ps_if (pt_cmpR op_eq (pv 7) pe_int (nomark _)) (pss_cons (ps_set (i := 8) sc__law_other_tree.nd rfl (by first | exact Or.inl rfl | exact Or.inr rfl) (pe_tup (pa_cons (pe_df D__law_draw hr rfl (pa_cons (pv 0) (pa_cons (pv 2) pa_nil))) (pa_cons (pe_df D__law_draw hr rfl (pa_cons (pv 0) (pa_cons (pv 2) pa_nil))) pa_nil))))
  (pss_one (ps_set (i := 6) sc__law_other_tree.nd rfl (by first | exact Or.inl rfl | exact Or.inr rfl) (pe_tup (pa_cons pe_str (pa_cons (pe_tup (pa_cons (pe_callB (cr_minT rfl) (by rfl) B.min (by decide +kernel) (pa_cons (pv 8) pa_nil)) (pa_cons (pe_callB (cr_maxT rfl) (by rfl) B.max (by decide +kernel) (pa_cons (pv 8) pa_nil)) pa_nil))) (pa_cons (pe_tupleOf (by rfl) B.tuple (pe_lc (own := [("_law_hue_here", 9)]) rfl sc__law_other_tree.nd (pi_range1 (by rfl) B.range (pa_cons (pv 3) pa_nil)) (blkOk_by (own := [("_law_hue_here", 9)]) (N := n__law_other_tree) (sc := (defScope (top 45))) (by decide +kernel)) (fun _ _ _ _ _ => (pg_name (i := 9) sc__law_other_tree.nd rfl (by first | exact Or.inl rfl | exact Or.inr rfl))) (fun _ _ _ _ _ => pts_nil) (fun _ _ _ _ _ => (pe_df D__law_leaf hr rfl (pa_cons (pv 0) (pa_cons (pv 2) (pa_cons (pv 3) (pa_cons (pv 4) pa_nil)))))))) pa_nil))))))) pss_nil)
  (pss_cons (ps_if (pt_cmpR op_eq (pv 7) pe_int (nomark _)) (pss_one (ps_set (i := 6) sc__law_other_tree.nd rfl (by first | exact Or.inl rfl | exact Or.inr rfl) (pe_ix ix_list (pv 4) (pv 5) (fun _ _ => rfl)))) pss_nil)
  (pss_one (ps_ret (pe_df D__law_put hr rfl (pa_cons (pv 1) (pa_cons (pv 5) (pa_cons (pv 6) pa_nil)))))))))))))
end Hue
namespace Hue
open PySem PySem.Spec PyProof.Rows L2 DL
abbrev n__law_other_demand : List Str := ["_law_bag_here", "_law_demand_here", "_law_webs", "_law_at", "_law_other", "_law_way", "_law_spot"]
theorem sc__law_other_demand : FnScope n__law_other_demand ["_law_bag_here", "_law_demand_here"] (defScope (top 46)) := ⟨rfl, rfl, rfl, by decide +kernel, rfl, by decide +kernel, by decide +kernel⟩
theorem w__law_other_demand {P : Program} {w : World} {K : PySem.W.Frag} {mg : Str → Option Value} {base : Heap} {f : Addr} {cdv : Value} {A : Around} {outer : List Env} {s : Shared} {H : Hp} {E : XK} {k : Nat} (hr : Room k (A.deeper (envOfC "_law_other_demand" (defScope (top 46)) s.heap.objs.size f cdv))) (B : Blt mg) {S__law_ties : Sp} (D__law_ties : Df P w K mg base k "_law_ties" ["_law_many"] S__law_ties) {S__law_moved_web : Sp} (D__law_moved_web : Df P w K mg base k "_law_moved_web" ["_law_web_here", "_law_order"] S__law_moved_web) {S__law_turned : Sp} (D__law_turned : Df P w K mg base k "_law_turned" ["_law_bag_here", "_law_many"] S__law_turned) {S__law_web : Sp} (D__law_web : Df P w K mg base k "_law_web" ["_law_bag_here", "_law_most"] S__law_web) {S__law_draw : Sp} (D__law_draw : Df P w K mg base k "_law_draw" ["_law_bag_here", "_law_many"] S__law_draw) :
    PSs (cxOf CX0 P w K mg base n__law_other_demand "_law_other_demand" (defScope (top 46)) f cdv A outer s H E).nox (defBody (top 46)) (t__law_other_demand K S__law_ties S__law_moved_web S__law_turned S__law_web S__law_draw) :=
  (pss_cons (ps_set (i := 2) sc__law_other_demand.nd rfl (by first | exact Or.inl rfl | exact Or.inr rfl) (pe_callTy call_list_of (by rfl) B.list (by decide +kernel) (pa_cons (pv 1) pa_nil)))
  (pss_cons (ps_set (i := 3) sc__law_other_demand.nd rfl (by first | exact Or.inl rfl | exact Or.inr rfl) (pe_df D__law_draw hr rfl (pa_cons (pv 0) (pa_cons (pe_callB call_len_seq (by rfl) B.len PySem.boot_len (pa_cons (pv 2) pa_nil)) pa_nil))))
  (pss_cons (ps_set (i := 4) sc__law_other_demand.nd rfl (by first | exact Or.inl rfl | exact Or.inr rfl) (pe_df D__law_draw hr rfl (pa_cons (pv 0) (pa_cons (pe_callB call_len_seq (by rfl) B.len PySem.boot_len (pa_cons (pv 2) pa_nil)) pa_nil))))
  (pss_cons (ps_set (i := 5) sc__law_other_demand.nd rfl (by first | exact Or.inl rfl | exact Or.inr rfl) (pe_df D__law_draw hr rfl (pa_cons (pv 0) (pa_cons pe_int pa_nil))))
  (pss_cons (ps_if (pt_cmpR op_eq (pv 5) pe_int (nomark _)) (pss_one (ps_asg (pe_df D__law_web hr rfl (pa_cons (pv 0) (pa_cons pe_int pa_nil))) (pg_sub (pv 2) (pv 3) set_list))) pss_nil)
  (pss_cons (ps_if (pt_cmpR op_eq (pv 5) pe_int (nomark _)) (pss_one (ps_asg (pe_df D__law_moved_web hr rfl (pa_cons (pe_ix ix_list (pv 2) (pv 3) (fun _ _ => rfl)) (pa_cons (pe_df D__law_turned hr rfl (pa_cons (pv 0) (pa_cons (pe_ix ix_tup (pe_ix ix_list (pv 2) (pv 3) (fun _ _ => rfl)) pe_int (fun _ _ => rfl)) pa_nil))) pa_nil))) (pg_sub (pv 2) (pv 3) set_list))) pss_nil)
  (pss_cons (ps_if (pt_cmpR op_eq (pv 5) pe_int (nomark _)) (pss_cons (ps_asg (pe_ix ix_tup (pv 1) (pv 4) (fun _ _ => rfl)) (pg_sub (pv 2) (pv 3) set_list))
  (pss_one (ps_asg (pe_ix ix_tup (pv 1) (pv 3) (fun _ _ => rfl)) (pg_sub (pv 2) (pv 4) set_list)))) pss_nil)
  (pss_cons (ps_if (pt_cmpR op_eq (pv 5) pe_int (nomark _)) (pss_one (ps_asg (pe_tup (pa_cons (pe_ix ix_tup (pe_ix ix_list (pv 2) (pv 3) (fun _ _ => rfl)) pe_int (fun _ _ => rfl)) (pa_cons (pe_tupleOf (by rfl) B.tuple (pe_df D__law_ties hr rfl (pa_cons (pe_ix ix_tup (pe_ix ix_list (pv 2) (pv 3) (fun _ _ => rfl)) pe_int (fun _ _ => rfl)) pa_nil))) pa_nil))) (pg_sub (pv 2) (pv 3) set_list))) pss_nil)
  (pss_cons (ps_if (pt_cmpR op_eq (pv 5) pe_int (nomark _)) (pss_one (ps_asg (pe_tup (pa_cons (pe_ix ix_tup (pe_ix ix_list (pv 2) (pv 3) (fun _ _ => rfl)) pe_int (fun _ _ => rfl)) (pa_cons (pe_tupleOf (by rfl) B.tuple (pe_lc (own := [("_law_spot", 6)]) rfl sc__law_other_demand.nd (pi_range1 (by rfl) B.range (pa_cons (pe_op op_sub (pe_ix ix_tup (pe_ix ix_list (pv 2) (pv 3) (fun _ _ => rfl)) pe_int (fun _ _ => rfl)) pe_int) pa_nil)) (blkOk_by (own := [("_law_spot", 6)]) (N := n__law_other_demand) (sc := (defScope (top 46))) (by decide +kernel)) (fun _ _ _ _ _ => (pg_name (i := 6) sc__law_other_demand.nd rfl (by first | exact Or.inl rfl | exact Or.inr rfl))) (fun _ _ _ _ _ => pts_nil) (fun _ _ _ _ _ => (pe_tup (pa_cons (pv 6) (pa_cons (pe_op op_add (pv 6) pe_int) pa_nil)))))) pa_nil))) (pg_sub (pv 2) (pv 3) set_list))) pss_nil)
  (pss_one (ps_ret (pe_tupleOf (by rfl) B.tuple (pv 2)))))))))))))
end Hue
namespace Hue
open PySem PySem.Spec PyProof.Rows L2 DL
abbrev n_law : List Str := ["_law_script", "_law_cell", "_law_bag_here", "_law_demand_here", "_law_few", "_law_many", "_law_tree_here", "_law_turn", "_law_webs", "_law_most", "_law_thing", "_law_way", "_law_due", "_law_again"]
theorem sc_law : FnScope n_law ["_law_script"] (defScope (top 47)) := ⟨rfl, rfl, rfl, by decide +kernel, rfl, by decide +kernel, by decide +kernel⟩
theorem w_law {P : Program} {w : World} {K : PySem.W.Frag} {mg : Str → Option Value} {base : Heap} {f : Addr} {cdv : Value} {A : Around} {outer : List Env} {s : Shared} {H : Hp} {E : XK} {k : Nat} (hr : Room k (A.deeper (envOfC "law" (defScope (top 47)) s.heap.objs.size f cdv))) (B : Blt mg) {S__law_is : Sp} (D__law_is : Df P w K mg base k "_law_is" ["_law_found", "_law_due"] S__law_is) {S_tree_holds : Sp} (D_tree_holds : Df P w K mg base k "tree_holds" ["demand", "many", "tree"] S_tree_holds) {S__law_judged : Sp} (D__law_judged : Df P w K mg base k "_law_judged" ["_law_scene_here", "_law_tree_here", "_law_case", "_law_ends"] S__law_judged) {S__law_swaps : Sp} (D__law_swaps : Df P w K mg base k "_law_swaps" ["_law_demand_here"] S__law_swaps) {S__law_draw : Sp} (D__law_draw : Df P w K mg base k "_law_draw" ["_law_bag_here", "_law_many"] S__law_draw) {S__law_other_demand : Sp} (D__law_other_demand : Df P w K mg base k "_law_other_demand" ["_law_bag_here", "_law_demand_here"] S__law_other_demand) {S__law_other_tree : Sp} (D__law_other_tree : Df P w K mg base k "_law_other_tree" ["_law_bag_here", "_law_tree_here", "_law_many", "_law_colours"] S__law_other_tree) {S__law_tree : Sp} (D__law_tree : Df P w K mg base k "_law_tree" ["_law_bag_here", "_law_demand_here", "_law_few", "_law_many"] S__law_tree) {S__law_scene : Sp} (D__law_scene : Df P w K mg base k "_law_scene" ["_law_bag_here"] S__law_scene) {S__law_bag : Sp} (D__law_bag : Df P w K mg base k "_law_bag" ["_law_cell"] S__law_bag) :
    PSs (cxOf CX0 P w K mg base n_law "law" (defScope (top 47)) f cdv A outer s H E).nox (defBody (top 47)) (t_law K S__law_is S_tree_holds S__law_judged S__law_swaps S__law_draw S__law_other_demand S__law_other_tree S__law_tree S__law_scene S__law_bag) :=
  (pss_cons (ps_for PassesOwn.never rfl (pi_list (pe_op op_cat (pe_slice sl_list (pv 0) po_none (po_some pe_int)) (pe_lst (pa_cons (pe_callB call_len_seq (by rfl) B.len PySem.boot_len (pa_cons (pv 0) pa_nil)) pa_nil)))) (pg_name (i := 1) sc_law.nd rfl (by first | exact Or.inl rfl | exact Or.inr rfl)) (pss_cons (ps_set (i := 2) sc_law.nd rfl (by first | exact Or.inl rfl | exact Or.inr rfl) (pe_df D__law_bag hr rfl (pa_cons (pv 1) pa_nil)))
  (pss_cons (ps_asg (pe_df D__law_scene hr rfl (pa_cons (pv 2) pa_nil)) (pg_tup rfl (pgs_cons (pg_name (i := 3) sc_law.nd rfl (by first | exact Or.inl rfl | exact Or.inr rfl)) (pgs_cons (pg_name (i := 4) sc_law.nd rfl (by first | exact Or.inl rfl | exact Or.inr rfl)) (pgs_cons (pg_name (i := 5) sc_law.nd rfl (by first | exact Or.inl rfl | exact Or.inr rfl)) pgs_nil)))))
  (pss_cons (ps_set (i := 6) sc_law.nd rfl (by first | exact Or.inl rfl | exact Or.inr rfl) (pe_df D__law_tree hr rfl (pa_cons (pv 2) (pa_cons (pv 3) (pa_cons (pv 4) (pa_cons (pv 5) pa_nil))))))
  (pss_one (ps_for PassesOwn.never rfl (pi_range1 (by rfl) B.range (pa_cons pe_int pa_nil)) (pg_name (i := 7) sc_law.nd rfl (by first | exact Or.inl rfl | exact Or.inr rfl)) (pss_cons (ps_par3 (by rfl) sc_law.nd rfl rfl rfl (by decide) (by decide) (by decide) rfl rfl rfl (pa_cons (pv 3) (pa_cons (pv 5) (pa_cons (pv 6) pa_nil))) (by rfl))
  (pss_cons (ps_set (i := 11) sc_law.nd rfl (by first | exact Or.inl rfl | exact Or.inr rfl) (pe_df D__law_draw hr rfl (pa_cons (pv 2) (pa_cons pe_int pa_nil))))
  (pss_cons (ps_if (pt_cmpR op_lt (pv 11) pe_int (nomark _)) (pss_one (ps_set (i := 10) sc_law.nd rfl (by first | exact Or.inl rfl | exact Or.inr rfl) (pe_df D__law_other_tree hr rfl (pa_cons (pv 2) (pa_cons (pv 6) (pa_cons (pv 5) (pa_cons (pe_callB call_len_seq (by rfl) B.len PySem.boot_len (pa_cons (pv 3) pa_nil)) pa_nil))))))) pss_nil)
  (pss_cons (ps_if (PW.pt (pw_or (pt_cmpR op_eq (pv 11) pe_int (nomark _)) (pw_or1 (pt_cmpR op_eq (pv 11) pe_int (nomark _))))) (pss_one (ps_set (i := 8) sc_law.nd rfl (by first | exact Or.inl rfl | exact Or.inr rfl) (pe_df D__law_other_demand hr rfl (pa_cons (pv 2) (pa_cons (pv 3) pa_nil))))) pss_nil)
  (pss_cons (ps_if (pt_cmpR op_eq (pv 11) pe_int (nomark _)) (pss_one (ps_set (i := 9) sc_law.nd rfl (by first | exact Or.inl rfl | exact Or.inr rfl) (pe_callB (call_max2 rfl) (by rfl) B.max (by decide +kernel) (pa_cons pe_int (pa_cons (pe_callB (call_min2 rfl) (by rfl) B.min (by decide +kernel) (pa_cons pe_int (pa_cons (pe_op op_add (pv 5) (pe_ix ix_list (pe_lst (pa_cons pe_int (pa_cons (pe_un un_neg pe_int) pa_nil))) (pe_df D__law_draw hr rfl (pa_cons (pv 2) (pa_cons pe_int pa_nil))) (fun _ _ => rfl))) pa_nil))) pa_nil))))) pss_nil)
  (pss_cons (ps_set (i := 12) sc_law.nd rfl (by first | exact Or.inl rfl | exact Or.inr rfl) (pe_df D__law_judged hr rfl (pa_cons (pe_tup (pa_cons (pv 8) (pa_cons (pv 9) (pa_cons (pe_df D__law_swaps hr rfl (pa_cons (pv 8) pa_nil)) pa_nil)))) (pa_cons (pv 10) (pa_cons pe_dnewT (pa_cons (pe_lst pa_nil) pa_nil))))))
  (pss_one (ps_for PassesOwn.never rfl (pi_range1 (by rfl) B.range (pa_cons pe_int pa_nil)) (pg_name (i := 13) sc_law.nd rfl (by first | exact Or.inl rfl | exact Or.inr rfl)) (pss_one (ps_if (pt_not (pt_val (pe_df D__law_is hr rfl (pa_cons (pe_df D_tree_holds hr rfl (pa_cons (pv 8) (pa_cons (pv 9) (pa_cons (pv 10) pa_nil)))) (pa_cons (pv 12) pa_nil))))) (pss_one (ps_ret pe_bl)) pss_nil))))))))))))))))
  (pss_one (ps_ret pe_bl)))
end Hue
set_option maxHeartbeats 0
namespace Hue
open PySem PySem.Spec PyProof.Rows L2
abbrev ddf (i : Nat) (x : Str) : He.DefD := ⟨(x, none), x, x, defArgs (top i), defBody (top i), defScope (top i), [], []⟩
abbrev dmth (j : Nat) (m q : Str) : He.DefD := ⟨("Judge", some m), m, q, defArgs (inClass (top 13) j), defBody (inClass (top 13) j), defScope (inClass (top 13) j), [], []⟩
def fnD1 : List He.DefD := [ddf 1 "may_go", ddf 2 "longer_ways", ddf 3 "first_way", ddf 4 "like_way", ddf 6 "exchanges_of", ddf 8 "tie_between", ddf 9 "is_whole", ddf 10 "are_points", ddf 11 "is_group", dmth 0 "__init__" "Judge.__init__", dmth 1 "case_holds" "Judge.case_holds", dmth 2 "row_holds" "Judge.row_holds", dmth 3 "group_holds" "Judge.group_holds", dmth 4 "split_holds" "Judge.split_holds", dmth 5 "like_holds" "Judge.like_holds", dmth 6 "settled_of" "Judge.settled_of", ddf 14 "tree_holds", ddf 16 "_law_mix", ddf 17 "_law_bag", ddf 18 "_law_draw", ddf 19 "_law_turned", ddf 20 "_law_ties", ddf 21 "_law_moved_web", ddf 22 "_law_web", ddf 23 "_law_demand"]
def fnD2 : List He.DefD := [ddf 24 "_law_hue", ddf 25 "_law_group", ddf 26 "_law_naive", ddf 27 "_law_none", ddf 28 "_law_orders", ddf 29 "_law_alike", ddf 30 "_law_swaps", ddf 31 "_law_like", ddf 32 "_law_grown", ddf 33 "_law_tree", ddf 34 "_law_spots", ddf 35 "_law_put", ddf 36 "_law_named", ddf 37 "_law_scene", ddf 38 "_law_whole", ddf 39 "_law_points", ddf 40 "_law_group_fits", ddf 41 "_law_like_fits", ddf 42 "_law_judged", ddf 43 "_law_is", ddf 44 "_law_leaf", ddf 45 "_law_other_tree", ddf 46 "_law_other_demand", ddf 47 "law"]
def fnD : List He.DefD := fnD1 ++ fnD2
def gls1 : List Str := ["may_go", "longer_ways", "first_way", "like_way", "exchanges_of", "tie_between", "is_whole", "are_points", "is_group", "Judge", "tree_holds", "_law_mix", "_law_bag", "_law_draw", "_law_turned", "_law_ties", "_law_moved_web", "_law_web", "_law_demand", "_law_hue", "_law_group", "_law_naive"]
def gls2 : List Str := ["_law_none", "_law_orders", "_law_alike", "_law_swaps", "_law_like", "_law_grown", "_law_tree", "_law_spots", "_law_put", "_law_named", "_law_scene", "_law_whole", "_law_points", "_law_group_fits", "_law_like_fits", "_law_judged", "_law_is", "_law_leaf", "_law_other_tree", "_law_other_demand", "law"]
def gls : List Str := gls1 ++ gls2
def frees : List Str := ["len", "range", "enumerate", "min", "max", "isinstance", "int", "bool", "tuple", "str", "all", "set", "list", "sorted", "dict", "zip"]
def faD : List He.Fa := gls.map He.Fa.glo ++ frees.map He.Fa.free ++ [.cls "Judge", .mkr "Judge", .meth "Judge" "case_holds", .meth "Judge" "row_holds", .meth "Judge" "group_holds", .meth "Judge" "split_holds", .meth "Judge" "like_holds", .meth "Judge" "settled_of", .noat "Judge" "webs_judged", .noat "Judge" "points_judged", .noat "Judge" "swaps_let", .noat "Judge" "case_there", .noat "Judge" "came_by", .noat "Judge" "over_flags"]
abbrev rowO : PySem.W.OpenRow := PySem.W.OpenLaw.row PySem.Challenge.rw_huebound_k61_whole_trees_changed
abbrev hk : PySem.W.Hook := He.hookD 5 faD fnD
def ob (s : PySem.W.SharedT) : He.AlD := He.obsDG 5 faD fnD (HandSHeadRun.getT s)
theorem ob_eq (s : PySem.W.SharedT) : ob s = hk.obs s.abs := He.obsDG_eq (HandSHeadRun.getT_eq s)
def loose : List Str := gls.dropLast
theorem runO (w : World) : HandSHeadRun.RunEq rowO (PySem.W.view rowO.prog [47]) hk ob 6000 loose w := by
  intro os
  kernel_rfl
end Hue
namespace Hue
open PySem PySem.Spec PyProof.Rows L2 DL
/-- what the head says -/
structure Hds (K : PySem.W.Frag) (mg : Str → Option Value) : Prop where
  c : He.SaysD faD fnD K
  g : ∃ h : Heap, K.In h ∧ h.Ns mainGlobals mg
abbrev cJ (K : PySem.W.Frag) : Addr := He.ga K "Judge"
section
variable {P : Program} {w : World} {K : PySem.W.Frag} {mg : Str → Option Value} {base : Heap}
theorem hd_glo (S : Hds K mg) (i : Nat) {x : Str} (h : faD[i]? = some (.glo x)) : mg x = some (.ref (He.ga K x)) := by
  obtain ⟨hp, X, G⟩ := S.g
  exact He.glo_ok X G (S.c.fact i h)
theorem hd_free (S : Hds K mg) (i : Nat) {x : Str} (h : faD[i]? = some (.free x)) : mg x = none := by
  obtain ⟨hp, X, G⟩ := S.g
  exact He.free_ok X G (S.c.fact i h)
theorem fn_none {α : Type} {args : α → List D} {pre : α → Mu → Prop} {post : α → Mu → RR} {k : Nat} {f : Addr} {fd : FuncData} {ps : List Str} (h : ∀ a m, ¬ pre a m) : FnOk P w K mg base CX0 k f fd ps (spT args pre post) :=
  ⟨fun vs H Q E ⟨a, z, m, _, _, p, _⟩ => absurd p (h a m), fun A outer s H args us vs Q E hr he hb hv ⟨a, z, m, _, _, p, _⟩ => absurd p (h a m)⟩
theorem dk_mono {C : Addr} {j k : Nat} {ps : List Str} {sp : Sp} (h : Dk P w K mg base C j ps sp) (hk : j ≤ k) : Dk P w K mg base C k ps sp := by
  obtain ⟨i, f, fd, hi, r⟩ := h
  exact ⟨i, f, fd, Nat.le_trans hi hk, r⟩
theorem hd_blt (S : Hds K mg) : Blt mg := ⟨hd_free S 43 rfl, hd_free S 44 rfl, hd_free S 45 rfl, hd_free S 46 rfl, hd_free S 47 rfl, hd_free S 48 rfl, hd_free S 49 rfl, hd_free S 50 rfl, hd_free S 51 rfl, hd_free S 52 rfl, hd_free S 53 rfl, hd_free S 54 rfl, hd_free S 55 rfl, hd_free S 56 rfl, hd_free S 57 rfl, hd_free S 58 rfl⟩
theorem hd_cls (S : Hds K mg) : Cls K (cJ K) := He.cls_ok (S.c.fact 59 (f := .cls "Judge") rfl)
theorem hd_mk (S : Hds K mg) : Mk K (cJ K) (He.ma K (cJ K) "__init__") := He.mkr_ok (S.c.fact 60 (f := .mkr "Judge") rfl)
theorem hd_jdg (S : Hds K mg) : Jdg K mg (cJ K) := ⟨hd_cls S, hd_glo S 9 rfl, (hd_mk S).makes, (hd_mk S).kp⟩
theorem hd_jc (S : Hds K mg) : JC K (cJ K) := ⟨hd_cls S, He.noat_ok (S.c.fact 67 (f := .noat "Judge" "webs_judged") rfl), He.noat_ok (S.c.fact 68 (f := .noat "Judge" "points_judged") rfl), He.noat_ok (S.c.fact 69 (f := .noat "Judge" "swaps_let") rfl), He.noat_ok (S.c.fact 70 (f := .noat "Judge" "case_there") rfl), He.noat_ok (S.c.fact 71 (f := .noat "Judge" "came_by") rfl), He.noat_ok (S.c.fact 72 (f := .noat "Judge" "over_flags") rfl)⟩
theorem ok__law_is {f : Addr} {fd : FuncData} {k : Nat} (B : Blt mg) (F : FunD K "_law_is" "_law_is" (defArgs (top 43)) (defBody (top 43)) (defScope (top 43)) [] [] f fd) : FnOk P w K mg base CX0 (k + 1) f fd ["_law_found", "_law_due"] spIs :=
  fn_goT F sc__law_is (fun cdv A outer s H E hr => w__law_is hr B) (fun a m h => rfl) (fun a m h A hA => b_is)
theorem df__law_is (S : Hds K mg) : Df P w K mg base 1 "_law_is" ["_law_found", "_law_due"] spIs := by
  obtain ⟨fd, F⟩ := S.c.def_ 44 (d := ddf 43 "_law_is") rfl
  exact ⟨_, fd, ok__law_is (k := 0) (hd_blt S) F, hd_glo S 38 rfl, F.kp, (F.bindsN fun _ _ _ _ _ _ us hl => match us, hl with | [_, _], _ => rfl)⟩
theorem ok_may_go {f : Addr} {fd : FuncData} {k : Nat} (B : Blt mg) (F : FunD K "may_go" "may_go" (defArgs (top 1)) (defBody (top 1)) (defScope (top 1)) [] [] f fd) : FnOk P w K mg base CX0 (k + 1) f fd ["one", "other", "way", "point", "just"] spMay :=
  fn_goT F sc_may_go (fun cdv A outer s H E hr => w_may_go hr B) (fun a m h => rfl) (fun a m h A hA => b_may)
theorem df_may_go (S : Hds K mg) : Df P w K mg base 1 "may_go" ["one", "other", "way", "point", "just"] spMay := by
  obtain ⟨fd, F⟩ := S.c.def_ 0 (d := ddf 1 "may_go") rfl
  exact ⟨_, fd, ok_may_go (k := 0) (hd_blt S) F, hd_glo S 0 rfl, F.kp, (F.bindsN fun _ _ _ _ _ _ us hl => match us, hl with | [_, _, _, _, _], _ => rfl)⟩
theorem ok_longer_ways {f : Addr} {fd : FuncData} {k : Nat} (B : Blt mg) (D_may_go : Df P w K mg base k "may_go" ["one", "other", "way", "point", "just"] spMay) (F : FunD K "longer_ways" "longer_ways" (defArgs (top 2)) (defBody (top 2)) (defScope (top 2)) [] [] f fd) : FnOk P w K mg base CX0 (k + 1) f fd ["one", "other", "way", "just"] spLong :=
  fn_goT F sc_longer_ways (fun cdv A outer s H E hr => w_longer_ways hr B D_may_go) (fun a m h => rfl) (fun a m h A hA => b_long h)
theorem df_longer_ways (S : Hds K mg) : Df P w K mg base 2 "longer_ways" ["one", "other", "way", "just"] spLong := by
  obtain ⟨fd, F⟩ := S.c.def_ 1 (d := ddf 2 "longer_ways") rfl
  exact ⟨_, fd, ok_longer_ways (k := 1) (hd_blt S) ((df_may_go S).mono (by decide)) F, hd_glo S 1 rfl, F.kp, (F.bindsN fun _ _ _ _ _ _ us hl => match us, hl with | [_, _, _, _], _ => rfl)⟩
theorem ok_first_way {f : Addr} {fd : FuncData} {k : Nat} (B : Blt mg) (D_longer_ways : Df P w K mg base k "longer_ways" ["one", "other", "way", "just"] spLong) (F : FunD K "first_way" "first_way" (defArgs (top 3)) (defBody (top 3)) (defScope (top 3)) [] [] f fd) : FnOk P w K mg base CX0 (k + 1) f fd ["one", "other", "just"] spFirst :=
  fn_goT F sc_first_way (fun cdv A outer s H E hr => w_first_way hr B D_longer_ways) (fun a m h => rfl) (fun a m h A hA => b_first h)
theorem df_first_way (S : Hds K mg) : Df P w K mg base 3 "first_way" ["one", "other", "just"] spFirst := by
  obtain ⟨fd, F⟩ := S.c.def_ 2 (d := ddf 3 "first_way") rfl
  exact ⟨_, fd, ok_first_way (k := 2) (hd_blt S) ((df_longer_ways S).mono (by decide)) F, hd_glo S 2 rfl, F.kp, (F.bindsN fun _ _ _ _ _ _ us hl => match us, hl with | [_, _, _], _ => rfl)⟩
theorem ok_like_way {f : Addr} {fd : FuncData} {k : Nat} (B : Blt mg) (D_first_way : Df P w K mg base k "first_way" ["one", "other", "just"] spFirst) (F : FunD K "like_way" "like_way" (defArgs (top 4)) (defBody (top 4)) (defScope (top 4)) [] [] f fd) : FnOk P w K mg base CX0 (k + 1) f fd ["one", "other"] spLikeWay :=
  fn_goT F sc_like_way (fun cdv A outer s H E hr => w_like_way hr B D_first_way) (fun a m h => rfl) (fun a m h A hA => b_likeWay h)
theorem df_like_way (S : Hds K mg) : Df P w K mg base 4 "like_way" ["one", "other"] spLikeWay := by
  obtain ⟨fd, F⟩ := S.c.def_ 3 (d := ddf 4 "like_way") rfl
  exact ⟨_, fd, ok_like_way (k := 3) (hd_blt S) ((df_first_way S).mono (by decide)) F, hd_glo S 3 rfl, F.kp, (F.bindsN fun _ _ _ _ _ _ us hl => match us, hl with | [_, _], _ => rfl)⟩
theorem ok_exchanges_of {f : Addr} {fd : FuncData} {k : Nat} (B : Blt mg) (D_like_way : Df P w K mg base k "like_way" ["one", "other"] spLikeWay) (F : FunD K "exchanges_of" "exchanges_of" (defArgs (top 6)) (defBody (top 6)) (defScope (top 6)) [] [] f fd) : FnOk P w K mg base CX0 (k + 1) f fd ["demand"] spEx :=
  fn_goT F sc_exchanges_of (fun cdv A outer s H E hr => w_exchanges_of hr B D_like_way) (fun a m h => rfl) (fun a m h A hA => b_ex h)
theorem df_exchanges_of (S : Hds K mg) : Df P w K mg base 5 "exchanges_of" ["demand"] spEx := by
  obtain ⟨fd, F⟩ := S.c.def_ 4 (d := ddf 6 "exchanges_of") rfl
  exact ⟨_, fd, ok_exchanges_of (k := 4) (hd_blt S) ((df_like_way S).mono (by decide)) F, hd_glo S 4 rfl, F.kp, (F.bindsN fun _ _ _ _ _ _ us hl => match us, hl with | [_], _ => rfl)⟩
theorem ok___init__ {f : Addr} {fd : FuncData} {k : Nat} (B : Blt mg) {C : Addr} (T : Jdg K mg C) (c : JC K C) (D_exchanges_of : Df P w K mg base k "exchanges_of" ["demand"] spEx) (F : FunD K "__init__" "Judge.__init__" (defArgs (inClass (top 13) 0)) (defBody (inClass (top 13) 0)) (defScope (inClass (top 13) 0)) [] [] f fd) : FnOk P w K mg base CX0 (k + 1) f fd ["self", "demand", "many"] (spInit C) :=
  fn_goT F sc___init__ (fun cdv A outer s H E hr => w___init__ hr B T D_exchanges_of) (fun a m h => rfl) (fun a m h A hA => (by obtain ⟨J, C1, dx, ws, n⟩ := a; obtain ⟨e, h1, h2⟩ := h; have e : C1 = C := e; subst e; exact b_init c h1 h2))
theorem df___init__ (S : Hds K mg) : Dk P w K mg base (cJ K) 7 ["self", "demand", "many"] (spInit (cJ K)) := by
  obtain ⟨fd, F⟩ := S.c.def_ 9 (d := dmth 0 "__init__" "Judge.__init__") rfl
  exact ⟨6, _, fd, by decide, ok___init__ (k := 5) (hd_blt S) (hd_jdg S) (hd_jc S) ((df_exchanges_of S).mono (by decide)) F, hd_mk S, (F.bindsN fun _ _ _ _ _ _ us hl => match us, hl with | [_, _, _], _ => rfl)⟩
theorem ok_tie_between {f : Addr} {fd : FuncData} {k : Nat} (B : Blt mg) (F : FunD K "tie_between" "tie_between" (defArgs (top 8)) (defBody (top 8)) (defScope (top 8)) [] [] f fd) : FnOk P w K mg base CX0 (k + 1) f fd ["a", "b"] spTie :=
  fn_goT F sc_tie_between (fun cdv A outer s H E hr => w_tie_between hr B) (fun a m h => rfl) (fun a m h A hA => b_tie)
theorem df_tie_between (S : Hds K mg) : Df P w K mg base 1 "tie_between" ["a", "b"] spTie := by
  obtain ⟨fd, F⟩ := S.c.def_ 5 (d := ddf 8 "tie_between") rfl
  exact ⟨_, fd, ok_tie_between (k := 0) (hd_blt S) F, hd_glo S 5 rfl, F.kp, (F.bindsN fun _ _ _ _ _ _ us hl => match us, hl with | [_, _], _ => rfl)⟩
theorem ok_settled_of {f : Addr} {fd : FuncData} {k : Nat} (B : Blt mg) {C : Addr} (T : Jdg K mg C) (c : JC K C) (F : FunD K "settled_of" "Judge.settled_of" (defArgs (inClass (top 13) 6)) (defBody (inClass (top 13) 6)) (defScope (inClass (top 13) 6)) [] [] f fd) : FnOk P w K mg base CX0 (k + 1) f fd ["self", "number"] (spSettled C) :=
  fn_goT F sc_settled_of (fun cdv A outer s H E hr => w_settled_of hr B T) (fun a m h => rfl) (fun a m h A hA => b_settled c h hA)
theorem df_settled_of (S : Hds K mg) : Dm P w K mg base (cJ K) 1 "settled_of" ["self", "number"] (spSettled (cJ K)) := by
  obtain ⟨fd, F⟩ := S.c.def_ 15 (d := dmth 6 "settled_of" "Judge.settled_of") rfl
  exact ⟨_, fd, ok_settled_of (k := 0) (hd_blt S) (hd_jdg S) (hd_jc S) F, He.meth_ok (S.c.fact 66 (f := .meth "Judge" "settled_of") rfl), (F.bindsN fun _ _ _ _ _ _ us hl => match us, hl with | [_, _], _ => rfl)⟩
theorem ok_is_whole {f : Addr} {fd : FuncData} {k : Nat} (B : Blt mg) (F : FunD K "is_whole" "is_whole" (defArgs (top 9)) (defBody (top 9)) (defScope (top 9)) [] [] f fd) : FnOk P w K mg base CX0 (k + 1) f fd ["thing"] spWhole :=
  fn_goT F sc_is_whole (fun cdv A outer s H E hr => w_is_whole hr B) (fun a m h => rfl) (fun a m h A hA => b_whole)
theorem df_is_whole (S : Hds K mg) : Df P w K mg base 1 "is_whole" ["thing"] spWhole := by
  obtain ⟨fd, F⟩ := S.c.def_ 6 (d := ddf 9 "is_whole") rfl
  exact ⟨_, fd, ok_is_whole (k := 0) (hd_blt S) F, hd_glo S 6 rfl, F.kp, (F.bindsN fun _ _ _ _ _ _ us hl => match us, hl with | [_], _ => rfl)⟩
theorem ok_are_points {f : Addr} {fd : FuncData} {k : Nat} (B : Blt mg) (D_is_whole : Df P w K mg base k "is_whole" ["thing"] spWhole) (F : FunD K "are_points" "are_points" (defArgs (top 10)) (defBody (top 10)) (defScope (top 10)) [] [] f fd) : FnOk P w K mg base CX0 (k + 1) f fd ["many", "thing"] spPts :=
  fn_goT F sc_are_points (fun cdv A outer s H E hr => w_are_points hr B D_is_whole) (fun a m h => rfl) (fun a m h A hA => b_pts h)
theorem df_are_points (S : Hds K mg) : Df P w K mg base 2 "are_points" ["many", "thing"] spPts := by
  obtain ⟨fd, F⟩ := S.c.def_ 7 (d := ddf 10 "are_points") rfl
  exact ⟨_, fd, ok_are_points (k := 1) (hd_blt S) ((df_is_whole S).mono (by decide)) F, hd_glo S 7 rfl, F.kp, (F.bindsN fun _ _ _ _ _ _ us hl => match us, hl with | [_, _], _ => rfl)⟩
theorem ok_like_holds {f : Addr} {fd : FuncData} {k : Nat} (B : Blt mg) {C : Addr} (T : Jdg K mg C) (c : JC K C) (D_tie_between : Df P w K mg base k "tie_between" ["a", "b"] spTie) (D_settled_of : Dm P w K mg base C k "settled_of" ["self", "number"] (spSettled C)) (D_is_whole : Df P w K mg base k "is_whole" ["thing"] spWhole) (D_are_points : Df P w K mg base k "are_points" ["many", "thing"] spPts) (F : FunD K "like_holds" "Judge.like_holds" (defArgs (inClass (top 13) 5)) (defBody (inClass (top 13) 5)) (defScope (inClass (top 13) 5)) [] [] f fd) : FnOk P w K mg base CX0 (k + 1) f fd ["self", "number", "points", "exchange"] (spLikeH C) :=
  fn_goT F sc_like_holds (fun cdv A outer s H E hr => w_like_holds hr B T D_tie_between D_settled_of D_is_whole D_are_points) (fun a m h => rfl) (fun a m h A hA => b_likeH c h)
theorem df_like_holds (S : Hds K mg) : Dm P w K mg base (cJ K) 3 "like_holds" ["self", "number", "points", "exchange"] (spLikeH (cJ K)) := by
  obtain ⟨fd, F⟩ := S.c.def_ 14 (d := dmth 5 "like_holds" "Judge.like_holds") rfl
  exact ⟨_, fd, ok_like_holds (k := 2) (hd_blt S) (hd_jdg S) (hd_jc S) ((df_tie_between S).mono (by decide)) ((df_settled_of S).mono (by decide)) ((df_is_whole S).mono (by decide)) ((df_are_points S).mono (by decide)) F, He.meth_ok (S.c.fact 65 (f := .meth "Judge" "like_holds") rfl), (F.bindsN fun _ _ _ _ _ _ us hl => match us, hl with | [_, _, _, _], _ => rfl)⟩
theorem ok_is_group {f : Addr} {fd : FuncData} {k : Nat} (B : Blt mg) (D_tie_between : Df P w K mg base k "tie_between" ["a", "b"] spTie) (F : FunD K "is_group" "is_group" (defArgs (top 11)) (defBody (top 11)) (defScope (top 11)) [] [] f fd) : FnOk P w K mg base CX0 (k + 1) f fd ["case", "web", "colour", "points"] spIsGroup :=
  fn_goT F sc_is_group (fun cdv A outer s H E hr => w_is_group hr B D_tie_between) (fun a m h => rfl) (fun a m h A hA => b_isGroup h)
theorem df_is_group (S : Hds K mg) : Df P w K mg base 2 "is_group" ["case", "web", "colour", "points"] spIsGroup := by
  obtain ⟨fd, F⟩ := S.c.def_ 8 (d := ddf 11 "is_group") rfl
  exact ⟨_, fd, ok_is_group (k := 1) (hd_blt S) ((df_tie_between S).mono (by decide)) F, hd_glo S 8 rfl, F.kp, (F.bindsN fun _ _ _ _ _ _ us hl => match us, hl with | [_, _, _, _], _ => rfl)⟩
theorem ok_group_holds {f : Addr} {fd : FuncData} {k : Nat} (B : Blt mg) {C : Addr} (T : Jdg K mg C) (c : JC K C) (D_is_group : Df P w K mg base k "is_group" ["case", "web", "colour", "points"] spIsGroup) (D_are_points : Df P w K mg base k "are_points" ["many", "thing"] spPts) (D_is_whole : Df P w K mg base k "is_whole" ["thing"] spWhole) (F : FunD K "group_holds" "Judge.group_holds" (defArgs (inClass (top 13) 3)) (defBody (inClass (top 13) 3)) (defScope (inClass (top 13) 3)) [] [] f fd) : FnOk P w K mg base CX0 (k + 1) f fd ["self", "colour", "group"] (spGrpH C) :=
  fn_goT F sc_group_holds (fun cdv A outer s H E hr => w_group_holds hr B T D_is_group D_are_points D_is_whole) (fun a m h => rfl) (fun a m h A hA => b_grpH c h)
theorem df_group_holds (S : Hds K mg) : Dm P w K mg base (cJ K) 3 "group_holds" ["self", "colour", "group"] (spGrpH (cJ K)) := by
  obtain ⟨fd, F⟩ := S.c.def_ 12 (d := dmth 3 "group_holds" "Judge.group_holds") rfl
  exact ⟨_, fd, ok_group_holds (k := 2) (hd_blt S) (hd_jdg S) (hd_jc S) ((df_is_group S).mono (by decide)) ((df_are_points S).mono (by decide)) ((df_is_whole S).mono (by decide)) F, He.meth_ok (S.c.fact 63 (f := .meth "Judge" "group_holds") rfl), (F.bindsN fun _ _ _ _ _ _ us hl => match us, hl with | [_, _, _], _ => rfl)⟩
theorem ok_split_holds {f : Addr} {fd : FuncData} {k : Nat} {k2 : Nat} (B : Blt mg) {C : Addr} (T : Jdg K mg C) (c : JC K C) (D_case_holds : Dm P w K mg base C k "case_holds" ["self", "thing", "above", "tie"] (spCase C k2)) (D_are_points : Df P w K mg base k "are_points" ["many", "thing"] spPts) (F : FunD K "split_holds" "Judge.split_holds" (defArgs (inClass (top 13) 4)) (defBody (inClass (top 13) 4)) (defScope (inClass (top 13) 4)) [] [] f fd) : FnOk P w K mg base CX0 (k + 1) f fd ["self", "tie", "trees", "number"] (spSplit C (k2 + 1)) :=
  fn_goT F sc_split_holds (fun cdv A outer s H E hr => w_split_holds hr B T D_case_holds D_are_points) (fun a m h => rfl) (fun a m h A hA => b_split c h.1 h.2.1 h.2.2.1 h.2.2.2.1 h.2.2.2.2)
theorem ok_row_holds {f : Addr} {fd : FuncData} {k : Nat} {k2 : Nat} (B : Blt mg) {C : Addr} (T : Jdg K mg C) (c : JC K C) (D_like_holds : Dm P w K mg base C k "like_holds" ["self", "number", "points", "exchange"] (spLikeH C)) (D_split_holds : Dm P w K mg base C k "split_holds" ["self", "tie", "trees", "number"] (spSplit C k2)) (D_group_holds : Dm P w K mg base C k "group_holds" ["self", "colour", "group"] (spGrpH C)) (F : FunD K "row_holds" "Judge.row_holds" (defArgs (inClass (top 13) 2)) (defBody (inClass (top 13) 2)) (defScope (inClass (top 13) 2)) [] [] f fd) : FnOk P w K mg base CX0 (k + 1) f fd ["self", "row", "number"] (spRow C k2) :=
  fn_goT F sc_row_holds (fun cdv A outer s H E hr => w_row_holds hr B T D_like_holds D_split_holds D_group_holds) (fun a m h => rfl) (fun a m h A hA => b_row c h.1 h.2.1 h.2.2.1 h.2.2.2.1 h.2.2.2.2)
theorem ok_case_holds {f : Addr} {fd : FuncData} {k : Nat} {k2 : Nat} (hn : k2 ≤ 31) (B : Blt mg) {C : Addr} (T : Jdg K mg C) (c : JC K C) (D_row_holds : Dm P w K mg base C k "row_holds" ["self", "row", "number"] (spRow C k2)) (F : FunD K "case_holds" "Judge.case_holds" (defArgs (inClass (top 13) 1)) (defBody (inClass (top 13) 1)) (defScope (inClass (top 13) 1)) [] [] f fd) : FnOk P w K mg base CX0 (k + 1) f fd ["self", "thing", "above", "tie"] (spCase C k2) :=
  fn_goT F sc_case_holds (fun cdv A outer s H E hr => w_case_holds hr B T D_row_holds) (fun a m h => rfl) (fun a m h A hA => b_case c h.1 hn h.2.1 h.2.2.1 h.2.2.2.1 h.2.2.2.2)
theorem dr_case_holds (S : Hds K mg) : ∀ n, n ≤ 31 → Dm P w K mg base (cJ K) (3 + 3 * n) "case_holds" ["self", "thing", "above", "tie"] (spCase (cJ K) n) := fun n => by
  induction n with
  | zero =>
    intro _
    obtain ⟨fd, F⟩ := S.c.def_ 10 (d := dmth 1 "case_holds" "Judge.case_holds") rfl
    exact ⟨_, fd, fn_none fun a m q => absurd q.1 (Nat.not_lt_zero _), He.meth_ok (S.c.fact 61 (f := .meth "Judge" "case_holds") rfl), (F.bindsN fun _ _ _ _ _ _ us hl => match us, hl with | [_, _, _, _], _ => rfl)⟩
  | succ n ih =>
    intro hn
    have s1 : Dm P w K mg base (cJ K) (3 + 3 * n + 1) "split_holds" ["self", "tie", "trees", "number"] (spSplit (cJ K) (n + 1)) := by
      obtain ⟨fd, F⟩ := S.c.def_ 13 (d := dmth 4 "split_holds" "Judge.split_holds") rfl
      exact ⟨_, fd, ok_split_holds (k := 3 + 3 * n) (hd_blt S) (hd_jdg S) (hd_jc S) (ih (by omega)) ((df_are_points S).mono (show 2 ≤ 3 + 3 * n by omega)) F, He.meth_ok (S.c.fact 64 (f := .meth "Judge" "split_holds") rfl), (F.bindsN fun _ _ _ _ _ _ us hl => match us, hl with | [_, _, _, _], _ => rfl)⟩
    have r1 : Dm P w K mg base (cJ K) (3 + 3 * n + 1 + 1) "row_holds" ["self", "row", "number"] (spRow (cJ K) (n + 1)) := by
      obtain ⟨fd, F⟩ := S.c.def_ 11 (d := dmth 2 "row_holds" "Judge.row_holds") rfl
      exact ⟨_, fd, ok_row_holds (k := 3 + 3 * n + 1) (hd_blt S) (hd_jdg S) (hd_jc S) ((df_like_holds S).mono (show 3 ≤ 3 + 3 * n + 1 by omega)) s1 ((df_group_holds S).mono (show 3 ≤ 3 + 3 * n + 1 by omega)) F, He.meth_ok (S.c.fact 62 (f := .meth "Judge" "row_holds") rfl), (F.bindsN fun _ _ _ _ _ _ us hl => match us, hl with | [_, _, _], _ => rfl)⟩
    have c1 : Dm P w K mg base (cJ K) (3 + 3 * n + 1 + 1 + 1) "case_holds" ["self", "thing", "above", "tie"] (spCase (cJ K) (n + 1)) := by
      obtain ⟨fd, F⟩ := S.c.def_ 10 (d := dmth 1 "case_holds" "Judge.case_holds") rfl
      exact ⟨_, fd, ok_case_holds (k := 3 + 3 * n + 1 + 1) hn (hd_blt S) (hd_jdg S) (hd_jc S) r1 F, He.meth_ok (S.c.fact 61 (f := .meth "Judge" "case_holds") rfl), (F.bindsN fun _ _ _ _ _ _ us hl => match us, hl with | [_, _, _, _], _ => rfl)⟩
    exact c1
theorem df_case_holds (S : Hds K mg) : Dm P w K mg base (cJ K) 96 "case_holds" ["self", "thing", "above", "tie"] (spCase (cJ K) 31) := dr_case_holds S 31 (by decide)
theorem ok_tree_holds {f : Addr} {fd : FuncData} {k : Nat} (B : Blt mg) {C : Addr} (T : Jdg K mg C) (c : JC K C) (D_case_holds : Dm P w K mg base C k "case_holds" ["self", "thing", "above", "tie"] (spCase C 31)) (D___init__ : Dk P w K mg base C k ["self", "demand", "many"] (spInit C)) (F : FunD K "tree_holds" "tree_holds" (defArgs (top 14)) (defBody (top 14)) (defScope (top 14)) [] [] f fd) : FnOk P w K mg base CX0 (k + 1) f fd ["demand", "many", "tree"] spTree :=
  fn_goT F sc_tree_holds (fun cdv A outer s H E hr => w_tree_holds hr B T D_case_holds D___init__) (fun a m h => rfl) (fun a m h A hA => b_tree c h)
theorem df_tree_holds (S : Hds K mg) : Df P w K mg base 97 "tree_holds" ["demand", "many", "tree"] spTree := by
  obtain ⟨fd, F⟩ := S.c.def_ 16 (d := ddf 14 "tree_holds") rfl
  exact ⟨_, fd, ok_tree_holds (k := 96) (hd_blt S) (hd_jdg S) (hd_jc S) ((df_case_holds S).mono (by decide)) (dk_mono (df___init__ S) (by decide)) F, hd_glo S 10 rfl, F.kp, (F.bindsN fun _ _ _ _ _ _ us hl => match us, hl with | [_, _, _], _ => rfl)⟩
theorem ok__law_hue {f : Addr} {fd : FuncData} {k : Nat} (B : Blt mg) (F : FunD K "_law_hue" "_law_hue" (defArgs (top 24)) (defBody (top 24)) (defScope (top 24)) [] [] f fd) : FnOk P w K mg base CX0 (k + 1) f fd ["_law_case", "_law_one", "_law_other"] spHue :=
  fn_goT F sc__law_hue (fun cdv A outer s H E hr => w__law_hue hr B) (fun a m h => rfl) (fun a m h A hA => b_hue h)
theorem df__law_hue (S : Hds K mg) : Df P w K mg base 1 "_law_hue" ["_law_case", "_law_one", "_law_other"] spHue := by
  obtain ⟨fd, F⟩ := S.c.def_ 25 (d := ddf 24 "_law_hue") rfl
  exact ⟨_, fd, ok__law_hue (k := 0) (hd_blt S) F, hd_glo S 19 rfl, F.kp, (F.bindsN fun _ _ _ _ _ _ us hl => match us, hl with | [_, _, _], _ => rfl)⟩
theorem ok__law_whole {f : Addr} {fd : FuncData} {k : Nat} (B : Blt mg) (F : FunD K "_law_whole" "_law_whole" (defArgs (top 38)) (defBody (top 38)) (defScope (top 38)) [] [] f fd) : FnOk P w K mg base CX0 (k + 1) f fd ["_law_thing"] spWhole :=
  fn_goT F sc__law_whole (fun cdv A outer s H E hr => w__law_whole hr B) (fun a m h => rfl) (fun a m h A hA => b_lwhole)
theorem df__law_whole (S : Hds K mg) : Df P w K mg base 1 "_law_whole" ["_law_thing"] spWhole := by
  obtain ⟨fd, F⟩ := S.c.def_ 39 (d := ddf 38 "_law_whole") rfl
  exact ⟨_, fd, ok__law_whole (k := 0) (hd_blt S) F, hd_glo S 33 rfl, F.kp, (F.bindsN fun _ _ _ _ _ _ us hl => match us, hl with | [_], _ => rfl)⟩
theorem ok__law_points {f : Addr} {fd : FuncData} {k : Nat} (B : Blt mg) (D__law_whole : Df P w K mg base k "_law_whole" ["_law_thing"] spWhole) (F : FunD K "_law_points" "_law_points" (defArgs (top 39)) (defBody (top 39)) (defScope (top 39)) [] [] f fd) : FnOk P w K mg base CX0 (k + 1) f fd ["_law_many", "_law_thing"] spPts :=
  fn_goT F sc__law_points (fun cdv A outer s H E hr => w__law_points hr B D__law_whole) (fun a m h => rfl) (fun a m h A hA => b_lpts h)
theorem df__law_points (S : Hds K mg) : Df P w K mg base 2 "_law_points" ["_law_many", "_law_thing"] spPts := by
  obtain ⟨fd, F⟩ := S.c.def_ 40 (d := ddf 39 "_law_points") rfl
  exact ⟨_, fd, ok__law_points (k := 1) (hd_blt S) ((df__law_whole S).mono (by decide)) F, hd_glo S 34 rfl, F.kp, (F.bindsN fun _ _ _ _ _ _ us hl => match us, hl with | [_, _], _ => rfl)⟩
theorem ok__law_group_fits {f : Addr} {fd : FuncData} {k : Nat} (B : Blt mg) (D__law_hue : Df P w K mg base k "_law_hue" ["_law_case", "_law_one", "_law_other"] spHue) (D__law_points : Df P w K mg base k "_law_points" ["_law_many", "_law_thing"] spPts) (D__law_whole : Df P w K mg base k "_law_whole" ["_law_thing"] spWhole) (F : FunD K "_law_group_fits" "_law_group_fits" (defArgs (top 40)) (defBody (top 40)) (defScope (top 40)) [] [] f fd) : FnOk P w K mg base CX0 (k + 1) f fd ["_law_demand_here", "_law_many", "_law_case", "_law_colour", "_law_group_here"] spGFits :=
  fn_goT F sc__law_group_fits (fun cdv A outer s H E hr => w__law_group_fits hr B D__law_hue D__law_points D__law_whole) (fun a m h => rfl) (fun a m h A hA => b_gfits h)
theorem df__law_group_fits (S : Hds K mg) : Df P w K mg base 3 "_law_group_fits" ["_law_demand_here", "_law_many", "_law_case", "_law_colour", "_law_group_here"] spGFits := by
  obtain ⟨fd, F⟩ := S.c.def_ 41 (d := ddf 40 "_law_group_fits") rfl
  exact ⟨_, fd, ok__law_group_fits (k := 2) (hd_blt S) ((df__law_hue S).mono (by decide)) ((df__law_points S).mono (by decide)) ((df__law_whole S).mono (by decide)) F, hd_glo S 35 rfl, F.kp, (F.bindsN fun _ _ _ _ _ _ us hl => match us, hl with | [_, _, _, _, _], _ => rfl)⟩
theorem ok__law_like_fits {f : Addr} {fd : FuncData} {k : Nat} (B : Blt mg) (D__law_hue : Df P w K mg base k "_law_hue" ["_law_case", "_law_one", "_law_other"] spHue) (D__law_whole : Df P w K mg base k "_law_whole" ["_law_thing"] spWhole) (D__law_points : Df P w K mg base k "_law_points" ["_law_many", "_law_thing"] spPts) (F : FunD K "_law_like_fits" "_law_like_fits" (defArgs (top 41)) (defBody (top 41)) (defScope (top 41)) [] [] f fd) : FnOk P w K mg base CX0 (k + 1) f fd ["_law_many", "_law_swaps_here", "_law_case", "_law_ends", "_law_row"] spLFits :=
  fn_goT F sc__law_like_fits (fun cdv A outer s H E hr => w__law_like_fits hr B D__law_hue D__law_whole D__law_points) (fun a m h => rfl) (fun a m h A hA => (by obtain ⟨C, h⟩ := h; exact b_lfits h))
theorem df__law_like_fits (S : Hds K mg) : Df P w K mg base 3 "_law_like_fits" ["_law_many", "_law_swaps_here", "_law_case", "_law_ends", "_law_row"] spLFits := by
  obtain ⟨fd, F⟩ := S.c.def_ 42 (d := ddf 41 "_law_like_fits") rfl
  exact ⟨_, fd, ok__law_like_fits (k := 2) (hd_blt S) ((df__law_hue S).mono (by decide)) ((df__law_whole S).mono (by decide)) ((df__law_points S).mono (by decide)) F, hd_glo S 36 rfl, F.kp, (F.bindsN fun _ _ _ _ _ _ us hl => match us, hl with | [_, _, _, _, _], _ => rfl)⟩
theorem ok__law_judged {f : Addr} {fd : FuncData} {k : Nat} {k2 : Nat} (B : Blt mg) (D__law_group_fits : Df P w K mg base k "_law_group_fits" ["_law_demand_here", "_law_many", "_law_case", "_law_colour", "_law_group_here"] spGFits) (D__law_like_fits : Df P w K mg base k "_law_like_fits" ["_law_many", "_law_swaps_here", "_law_case", "_law_ends", "_law_row"] spLFits) (D__law_judged : Df P w K mg base k "_law_judged" ["_law_scene_here", "_law_tree_here", "_law_case", "_law_ends"] (spJud k2)) (D__law_points : Df P w K mg base k "_law_points" ["_law_many", "_law_thing"] spPts) (F : FunD K "_law_judged" "_law_judged" (defArgs (top 42)) (defBody (top 42)) (defScope (top 42)) [] [] f fd) : FnOk P w K mg base CX0 (k + 1) f fd ["_law_scene_here", "_law_tree_here", "_law_case", "_law_ends"] (spJud (k2 + 1)) :=
  fn_goT F sc__law_judged (fun cdv A outer s H E hr => w__law_judged hr B D__law_group_fits D__law_like_fits D__law_judged D__law_points) (fun a m h => rfl) (fun a m h A hA => b_jud h.1 h.2 hA)
theorem dr__law_judged (S : Hds K mg) : ∀ n, Df P w K mg base (3 + n) "_law_judged" ["_law_scene_here", "_law_tree_here", "_law_case", "_law_ends"] (spJud n) := fun n => by
  obtain ⟨fd, F⟩ := S.c.def_ 43 (d := ddf 42 "_law_judged") rfl
  induction n with
  | zero => exact ⟨_, fd, fn_none fun a m q => absurd q.1 (Nat.not_lt_zero _), hd_glo S 37 rfl, F.kp, (F.bindsN fun _ _ _ _ _ _ us hl => match us, hl with | [_, _, _, _], _ => rfl)⟩
  | succ n ih =>
    exact ⟨_, fd, ok__law_judged (k := 3 + n) (hd_blt S) ((df__law_group_fits S).mono (show 3 ≤ 3 + n by omega)) ((df__law_like_fits S).mono (show 3 ≤ 3 + n by omega)) ih ((df__law_points S).mono (show 2 ≤ 3 + n by omega)) F, hd_glo S 37 rfl, F.kp, (F.bindsN fun _ _ _ _ _ _ us hl => match us, hl with | [_, _, _, _], _ => rfl)⟩
theorem df__law_judged (S : Hds K mg) : Df P w K mg base 34 "_law_judged" ["_law_scene_here", "_law_tree_here", "_law_case", "_law_ends"] (spJud 31) := dr__law_judged S 31
theorem ok__law_orders {f : Addr} {fd : FuncData} {k : Nat} (B : Blt mg) (F : FunD K "_law_orders" "_law_orders" (defArgs (top 28)) (defBody (top 28)) (defScope (top 28)) [] [] f fd) : FnOk P w K mg base CX0 (k + 1) f fd ["_law_many"] spOrders :=
  fn_goT F sc__law_orders (fun cdv A outer s H E hr => w__law_orders hr B) (fun a m h => rfl) (fun a m h A hA => b_orders h)
theorem df__law_orders (S : Hds K mg) : Df P w K mg base 1 "_law_orders" ["_law_many"] spOrders := by
  obtain ⟨fd, F⟩ := S.c.def_ 29 (d := ddf 28 "_law_orders") rfl
  exact ⟨_, fd, ok__law_orders (k := 0) (hd_blt S) F, hd_glo S 23 rfl, F.kp, (F.bindsN fun _ _ _ _ _ _ us hl => match us, hl with | [_], _ => rfl)⟩
theorem ok__law_moved_web {f : Addr} {fd : FuncData} {k : Nat} (B : Blt mg) (F : FunD K "_law_moved_web" "_law_moved_web" (defArgs (top 21)) (defBody (top 21)) (defScope (top 21)) [] [] f fd) : FnOk P w K mg base CX0 (k + 1) f fd ["_law_web_here", "_law_order"] spMoved :=
  fn_goT F sc__law_moved_web (fun cdv A outer s H E hr => w__law_moved_web hr B) (fun a m h => rfl) (fun a m h A hA => b_moved h)
theorem df__law_moved_web (S : Hds K mg) : Df P w K mg base 1 "_law_moved_web" ["_law_web_here", "_law_order"] spMoved := by
  obtain ⟨fd, F⟩ := S.c.def_ 22 (d := ddf 21 "_law_moved_web") rfl
  exact ⟨_, fd, ok__law_moved_web (k := 0) (hd_blt S) F, hd_glo S 16 rfl, F.kp, (F.bindsN fun _ _ _ _ _ _ us hl => match us, hl with | [_, _], _ => rfl)⟩
theorem ok__law_alike {f : Addr} {fd : FuncData} {k : Nat} (B : Blt mg) (D__law_orders : Df P w K mg base k "_law_orders" ["_law_many"] spOrders) (D__law_moved_web : Df P w K mg base k "_law_moved_web" ["_law_web_here", "_law_order"] spMoved) (F : FunD K "_law_alike" "_law_alike" (defArgs (top 29)) (defBody (top 29)) (defScope (top 29)) [] [] f fd) : FnOk P w K mg base CX0 (k + 1) f fd ["_law_one", "_law_other"] spAlike :=
  fn_goT F sc__law_alike (fun cdv A outer s H E hr => w__law_alike hr B D__law_orders D__law_moved_web) (fun a m h => rfl) (fun a m h A hA => b_alike h)
theorem df__law_alike (S : Hds K mg) : Df P w K mg base 2 "_law_alike" ["_law_one", "_law_other"] spAlike := by
  obtain ⟨fd, F⟩ := S.c.def_ 30 (d := ddf 29 "_law_alike") rfl
  exact ⟨_, fd, ok__law_alike (k := 1) (hd_blt S) ((df__law_orders S).mono (by decide)) ((df__law_moved_web S).mono (by decide)) F, hd_glo S 24 rfl, F.kp, (F.bindsN fun _ _ _ _ _ _ us hl => match us, hl with | [_, _], _ => rfl)⟩
theorem ok__law_swaps {f : Addr} {fd : FuncData} {k : Nat} (B : Blt mg) (D__law_orders : Df P w K mg base k "_law_orders" ["_law_many"] spOrders) (D__law_alike : Df P w K mg base k "_law_alike" ["_law_one", "_law_other"] spAlike) (F : FunD K "_law_swaps" "_law_swaps" (defArgs (top 30)) (defBody (top 30)) (defScope (top 30)) [] [] f fd) : FnOk P w K mg base CX0 (k + 1) f fd ["_law_demand_here"] spSwaps :=
  fn_goT F sc__law_swaps (fun cdv A outer s H E hr => w__law_swaps hr B D__law_orders D__law_alike) (fun a m h => rfl) (fun a m h A hA => b_swaps h hA)
theorem df__law_swaps (S : Hds K mg) : Df P w K mg base 3 "_law_swaps" ["_law_demand_here"] spSwaps := by
  obtain ⟨fd, F⟩ := S.c.def_ 31 (d := ddf 30 "_law_swaps") rfl
  exact ⟨_, fd, ok__law_swaps (k := 2) (hd_blt S) ((df__law_orders S).mono (by decide)) ((df__law_alike S).mono (by decide)) F, hd_glo S 25 rfl, F.kp, (F.bindsN fun _ _ _ _ _ _ us hl => match us, hl with | [_], _ => rfl)⟩
theorem ok__law_mix {f : Addr} {fd : FuncData} {k : Nat} (B : Blt mg) (F : FunD K "_law_mix" "_law_mix" (defArgs (top 16)) (defBody (top 16)) (defScope (top 16)) [] [] f fd) : FnOk P w K mg base CX0 (k + 1) f fd ["_law_bag_here"] spMix :=
  fn_goT F sc__law_mix (fun cdv A outer s H E hr => w__law_mix hr B) (fun a m h => rfl) (fun a m h A hA => b_mix h)
theorem df__law_mix (S : Hds K mg) : Df P w K mg base 1 "_law_mix" ["_law_bag_here"] spMix := by
  obtain ⟨fd, F⟩ := S.c.def_ 17 (d := ddf 16 "_law_mix") rfl
  exact ⟨_, fd, ok__law_mix (k := 0) (hd_blt S) F, hd_glo S 11 rfl, F.kp, (F.bindsN fun _ _ _ _ _ _ us hl => match us, hl with | [_], _ => rfl)⟩
theorem ok__law_draw {f : Addr} {fd : FuncData} {k : Nat} (B : Blt mg) (D__law_mix : Df P w K mg base k "_law_mix" ["_law_bag_here"] spMix) (F : FunD K "_law_draw" "_law_draw" (defArgs (top 18)) (defBody (top 18)) (defScope (top 18)) [] [] f fd) : FnOk P w K mg base CX0 (k + 1) f fd ["_law_bag_here", "_law_many"] spDraw :=
  fn_goT F sc__law_draw (fun cdv A outer s H E hr => w__law_draw hr B D__law_mix) (fun a m h => rfl) (fun a m h A hA => b_draw h)
theorem df__law_draw (S : Hds K mg) : Df P w K mg base 2 "_law_draw" ["_law_bag_here", "_law_many"] spDraw := by
  obtain ⟨fd, F⟩ := S.c.def_ 19 (d := ddf 18 "_law_draw") rfl
  exact ⟨_, fd, ok__law_draw (k := 1) (hd_blt S) ((df__law_mix S).mono (by decide)) F, hd_glo S 13 rfl, F.kp, (F.bindsN fun _ _ _ _ _ _ us hl => match us, hl with | [_, _], _ => rfl)⟩
theorem ok__law_ties {f : Addr} {fd : FuncData} {k : Nat} (B : Blt mg) (F : FunD K "_law_ties" "_law_ties" (defArgs (top 20)) (defBody (top 20)) (defScope (top 20)) [] [] f fd) : FnOk P w K mg base CX0 (k + 1) f fd ["_law_many"] spTies :=
  fn_goT F sc__law_ties (fun cdv A outer s H E hr => w__law_ties hr B) (fun a m h => rfl) (fun a m h A hA => b_ties h)
theorem df__law_ties (S : Hds K mg) : Df P w K mg base 1 "_law_ties" ["_law_many"] spTies := by
  obtain ⟨fd, F⟩ := S.c.def_ 21 (d := ddf 20 "_law_ties") rfl
  exact ⟨_, fd, ok__law_ties (k := 0) (hd_blt S) F, hd_glo S 15 rfl, F.kp, (F.bindsN fun _ _ _ _ _ _ us hl => match us, hl with | [_], _ => rfl)⟩
theorem ok__law_turned {f : Addr} {fd : FuncData} {k : Nat} (B : Blt mg) (D__law_draw : Df P w K mg base k "_law_draw" ["_law_bag_here", "_law_many"] spDraw) (F : FunD K "_law_turned" "_law_turned" (defArgs (top 19)) (defBody (top 19)) (defScope (top 19)) [] [] f fd) : FnOk P w K mg base CX0 (k + 1) f fd ["_law_bag_here", "_law_many"] spTurned :=
  fn_goT F sc__law_turned (fun cdv A outer s H E hr => w__law_turned hr B D__law_draw) (fun a m h => rfl) (fun a m h A hA => b_turned h)
theorem df__law_turned (S : Hds K mg) : Df P w K mg base 3 "_law_turned" ["_law_bag_here", "_law_many"] spTurned := by
  obtain ⟨fd, F⟩ := S.c.def_ 20 (d := ddf 19 "_law_turned") rfl
  exact ⟨_, fd, ok__law_turned (k := 2) (hd_blt S) ((df__law_draw S).mono (by decide)) F, hd_glo S 14 rfl, F.kp, (F.bindsN fun _ _ _ _ _ _ us hl => match us, hl with | [_, _], _ => rfl)⟩
theorem ok__law_web {f : Addr} {fd : FuncData} {k : Nat} (B : Blt mg) (D__law_moved_web : Df P w K mg base k "_law_moved_web" ["_law_web_here", "_law_order"] spMoved) (D__law_turned : Df P w K mg base k "_law_turned" ["_law_bag_here", "_law_many"] spTurned) (D__law_draw : Df P w K mg base k "_law_draw" ["_law_bag_here", "_law_many"] spDraw) (D__law_ties : Df P w K mg base k "_law_ties" ["_law_many"] spTies) (F : FunD K "_law_web" "_law_web" (defArgs (top 22)) (defBody (top 22)) (defScope (top 22)) [] [] f fd) : FnOk P w K mg base CX0 (k + 1) f fd ["_law_bag_here", "_law_most"] spWeb :=
  fn_goT F sc__law_web (fun cdv A outer s H E hr => w__law_web hr B D__law_moved_web D__law_turned D__law_draw D__law_ties) (fun a m h => rfl) (fun a m h A hA => b_web h)
theorem df__law_web (S : Hds K mg) : Df P w K mg base 4 "_law_web" ["_law_bag_here", "_law_most"] spWeb := by
  obtain ⟨fd, F⟩ := S.c.def_ 23 (d := ddf 22 "_law_web") rfl
  exact ⟨_, fd, ok__law_web (k := 3) (hd_blt S) ((df__law_moved_web S).mono (by decide)) ((df__law_turned S).mono (by decide)) ((df__law_draw S).mono (by decide)) ((df__law_ties S).mono (by decide)) F, hd_glo S 17 rfl, F.kp, (F.bindsN fun _ _ _ _ _ _ us hl => match us, hl with | [_, _], _ => rfl)⟩
theorem ok__law_other_demand {f : Addr} {fd : FuncData} {k : Nat} (B : Blt mg) (D__law_ties : Df P w K mg base k "_law_ties" ["_law_many"] spTies) (D__law_moved_web : Df P w K mg base k "_law_moved_web" ["_law_web_here", "_law_order"] spMoved) (D__law_turned : Df P w K mg base k "_law_turned" ["_law_bag_here", "_law_many"] spTurned) (D__law_web : Df P w K mg base k "_law_web" ["_law_bag_here", "_law_most"] spWeb) (D__law_draw : Df P w K mg base k "_law_draw" ["_law_bag_here", "_law_many"] spDraw) (F : FunD K "_law_other_demand" "_law_other_demand" (defArgs (top 46)) (defBody (top 46)) (defScope (top 46)) [] [] f fd) : FnOk P w K mg base CX0 (k + 1) f fd ["_law_bag_here", "_law_demand_here"] spOD :=
  fn_goT F sc__law_other_demand (fun cdv A outer s H E hr => w__law_other_demand hr B D__law_ties D__law_moved_web D__law_turned D__law_web D__law_draw) (fun a m h => rfl) (fun a m h A hA => b_odemand h.1 h.2)
theorem df__law_other_demand (S : Hds K mg) : Df P w K mg base 5 "_law_other_demand" ["_law_bag_here", "_law_demand_here"] spOD := by
  obtain ⟨fd, F⟩ := S.c.def_ 47 (d := ddf 46 "_law_other_demand") rfl
  exact ⟨_, fd, ok__law_other_demand (k := 4) (hd_blt S) ((df__law_ties S).mono (by decide)) ((df__law_moved_web S).mono (by decide)) ((df__law_turned S).mono (by decide)) ((df__law_web S).mono (by decide)) ((df__law_draw S).mono (by decide)) F, hd_glo S 41 rfl, F.kp, (F.bindsN fun _ _ _ _ _ _ us hl => match us, hl with | [_, _], _ => rfl)⟩
theorem ok__law_spots {f : Addr} {fd : FuncData} {k : Nat} {k2 : Nat} (B : Blt mg) (D__law_spots : Df P w K mg base k "_law_spots" ["_law_tree_here"] (spSpots k2)) (F : FunD K "_law_spots" "_law_spots" (defArgs (top 34)) (defBody (top 34)) (defScope (top 34)) [] [] f fd) : FnOk P w K mg base CX0 (k + 1) f fd ["_law_tree_here"] (spSpots (k2 + 1)) :=
  fn_goT F sc__law_spots (fun cdv A outer s H E hr => w__law_spots hr B D__law_spots) (fun a m h => rfl) (fun a m h A hA => b_spots h)
theorem dr__law_spots (S : Hds K mg) : ∀ n, Df P w K mg base (0 + n) "_law_spots" ["_law_tree_here"] (spSpots n) := fun n => by
  obtain ⟨fd, F⟩ := S.c.def_ 35 (d := ddf 34 "_law_spots") rfl
  induction n with
  | zero => exact ⟨_, fd, fn_none fun a m q => absurd q.1 (Nat.not_lt_zero _), hd_glo S 29 rfl, F.kp, (F.bindsN fun _ _ _ _ _ _ us hl => match us, hl with | [_], _ => rfl)⟩
  | succ n ih =>
    exact ⟨_, fd, ok__law_spots (k := 0 + n) (hd_blt S) ih F, hd_glo S 29 rfl, F.kp, (F.bindsN fun _ _ _ _ _ _ us hl => match us, hl with | [_], _ => rfl)⟩
theorem df__law_spots (S : Hds K mg) : Df P w K mg base 31 "_law_spots" ["_law_tree_here"] (spSpots 31) := dr__law_spots S 31
theorem ok__law_put {f : Addr} {fd : FuncData} {k : Nat} {k2 : Nat} (hn : k2 + 1 ≤ 31) (B : Blt mg) (D__law_put : Df P w K mg base k "_law_put" ["_law_tree_here", "_law_at", "_law_new"] (spPut k2)) (D__law_spots : Df P w K mg base k "_law_spots" ["_law_tree_here"] (spSpots 31)) (F : FunD K "_law_put" "_law_put" (defArgs (top 35)) (defBody (top 35)) (defScope (top 35)) [] [] f fd) : FnOk P w K mg base CX0 (k + 1) f fd ["_law_tree_here", "_law_at", "_law_new"] (spPut (k2 + 1)) :=
  fn_goT F sc__law_put (fun cdv A outer s H E hr => w__law_put hr B D__law_put D__law_spots) (fun a m h => rfl) (fun a m h A hA => b_put (k2 := 31) (Nat.lt_of_lt_of_le h.1 hn) h)
theorem dr__law_put (S : Hds K mg) : ∀ n, n ≤ 31 → Df P w K mg base (31 + n) "_law_put" ["_law_tree_here", "_law_at", "_law_new"] (spPut n) := fun n => by
  obtain ⟨fd, F⟩ := S.c.def_ 36 (d := ddf 35 "_law_put") rfl
  induction n with
  | zero => intro _; exact ⟨_, fd, fn_none fun a m q => absurd q.1 (Nat.not_lt_zero _), hd_glo S 30 rfl, F.kp, (F.bindsN fun _ _ _ _ _ _ us hl => match us, hl with | [_, _, _], _ => rfl)⟩
  | succ n ih =>
    intro hn; exact ⟨_, fd, ok__law_put (k := 31 + n) hn (hd_blt S) (ih (by omega)) ((df__law_spots S).mono (show 31 ≤ 31 + n by omega)) F, hd_glo S 30 rfl, F.kp, (F.bindsN fun _ _ _ _ _ _ us hl => match us, hl with | [_, _, _], _ => rfl)⟩
theorem df__law_put (S : Hds K mg) : Df P w K mg base 62 "_law_put" ["_law_tree_here", "_law_at", "_law_new"] (spPut 31) := dr__law_put S 31 (by decide)
theorem ok__law_leaf {f : Addr} {fd : FuncData} {k : Nat} (B : Blt mg) (D__law_turned : Df P w K mg base k "_law_turned" ["_law_bag_here", "_law_many"] spTurned) (D__law_draw : Df P w K mg base k "_law_draw" ["_law_bag_here", "_law_many"] spDraw) (F : FunD K "_law_leaf" "_law_leaf" (defArgs (top 44)) (defBody (top 44)) (defScope (top 44)) [] [] f fd) : FnOk P w K mg base CX0 (k + 1) f fd ["_law_bag_here", "_law_many", "_law_colours", "_law_spots_here"] spLeaf :=
  fn_goT F sc__law_leaf (fun cdv A outer s H E hr => w__law_leaf hr B D__law_turned D__law_draw) (fun a m h => rfl) (fun a m h A hA => b_leaf h)
theorem df__law_leaf (S : Hds K mg) : Df P w K mg base 4 "_law_leaf" ["_law_bag_here", "_law_many", "_law_colours", "_law_spots_here"] spLeaf := by
  obtain ⟨fd, F⟩ := S.c.def_ 45 (d := ddf 44 "_law_leaf") rfl
  exact ⟨_, fd, ok__law_leaf (k := 3) (hd_blt S) ((df__law_turned S).mono (by decide)) ((df__law_draw S).mono (by decide)) F, hd_glo S 39 rfl, F.kp, (F.bindsN fun _ _ _ _ _ _ us hl => match us, hl with | [_, _, _, _], _ => rfl)⟩
theorem ok__law_other_tree {f : Addr} {fd : FuncData} {k : Nat} (B : Blt mg) (D__law_put : Df P w K mg base k "_law_put" ["_law_tree_here", "_law_at", "_law_new"] (spPut 31)) (D__law_leaf : Df P w K mg base k "_law_leaf" ["_law_bag_here", "_law_many", "_law_colours", "_law_spots_here"] spLeaf) (D__law_draw : Df P w K mg base k "_law_draw" ["_law_bag_here", "_law_many"] spDraw) (D__law_spots : Df P w K mg base k "_law_spots" ["_law_tree_here"] (spSpots 31)) (F : FunD K "_law_other_tree" "_law_other_tree" (defArgs (top 45)) (defBody (top 45)) (defScope (top 45)) [] [] f fd) : FnOk P w K mg base CX0 (k + 1) f fd ["_law_bag_here", "_law_tree_here", "_law_many", "_law_colours"] (spOT 31) :=
  fn_goT F sc__law_other_tree (fun cdv A outer s H E hr => w__law_other_tree hr B D__law_put D__law_leaf D__law_draw D__law_spots) (fun a m h => rfl) (fun a m h A hA => b_otree h.1 h.1 h.2)
theorem df__law_other_tree (S : Hds K mg) : Df P w K mg base 63 "_law_other_tree" ["_law_bag_here", "_law_tree_here", "_law_many", "_law_colours"] (spOT 31) := by
  obtain ⟨fd, F⟩ := S.c.def_ 46 (d := ddf 45 "_law_other_tree") rfl
  exact ⟨_, fd, ok__law_other_tree (k := 62) (hd_blt S) ((df__law_put S).mono (by decide)) ((df__law_leaf S).mono (by decide)) ((df__law_draw S).mono (by decide)) ((df__law_spots S).mono (by decide)) F, hd_glo S 40 rfl, F.kp, (F.bindsN fun _ _ _ _ _ _ us hl => match us, hl with | [_, _, _, _], _ => rfl)⟩
theorem ok__law_like {f : Addr} {fd : FuncData} {k : Nat} (B : Blt mg) (D__law_hue : Df P w K mg base k "_law_hue" ["_law_case", "_law_one", "_law_other"] spHue) (F : FunD K "_law_like" "_law_like" (defArgs (top 31)) (defBody (top 31)) (defScope (top 31)) [] [] f fd) : FnOk P w K mg base CX0 (k + 1) f fd ["_law_work", "_law_case"] spLk :=
  fn_goT F sc__law_like (fun cdv A outer s H E hr => w__law_like hr B D__law_hue) (fun a m h => rfl) (fun a m h A hA => b_lk h.1 h.2.1 h.2.2.1 h.2.2.2 hA)
theorem df__law_like (S : Hds K mg) : Df P w K mg base 2 "_law_like" ["_law_work", "_law_case"] spLk := by
  obtain ⟨fd, F⟩ := S.c.def_ 32 (d := ddf 31 "_law_like") rfl
  exact ⟨_, fd, ok__law_like (k := 1) (hd_blt S) ((df__law_hue S).mono (by decide)) F, hd_glo S 26 rfl, F.kp, (F.bindsN fun _ _ _ _ _ _ us hl => match us, hl with | [_, _], _ => rfl)⟩
theorem ok__law_group {f : Addr} {fd : FuncData} {k : Nat} (B : Blt mg) (D__law_hue : Df P w K mg base k "_law_hue" ["_law_case", "_law_one", "_law_other"] spHue) (F : FunD K "_law_group" "_law_group" (defArgs (top 25)) (defBody (top 25)) (defScope (top 25)) [] [] f fd) : FnOk P w K mg base CX0 (k + 1) f fd ["_law_case", "_law_web_here", "_law_colour", "_law_points_here"] spGroup :=
  fn_goT F sc__law_group (fun cdv A outer s H E hr => w__law_group hr B D__law_hue) (fun a m h => rfl) (fun a m h A hA => b_group h hA)
theorem df__law_group (S : Hds K mg) : Df P w K mg base 2 "_law_group" ["_law_case", "_law_web_here", "_law_colour", "_law_points_here"] spGroup := by
  obtain ⟨fd, F⟩ := S.c.def_ 26 (d := ddf 25 "_law_group") rfl
  exact ⟨_, fd, ok__law_group (k := 1) (hd_blt S) ((df__law_hue S).mono (by decide)) F, hd_glo S 20 rfl, F.kp, (F.bindsN fun _ _ _ _ _ _ us hl => match us, hl with | [_, _, _, _], _ => rfl)⟩
theorem ok__law_grown {f : Addr} {fd : FuncData} {k : Nat} {k2 : Nat} (B : Blt mg) (D__law_grown : Df P w K mg base k "_law_grown" ["_law_bag_here", "_law_work", "_law_case", "_law_hue_here"] (spGrown k2)) (D__law_hue : Df P w K mg base k "_law_hue" ["_law_case", "_law_one", "_law_other"] spHue) (D__law_ties : Df P w K mg base k "_law_ties" ["_law_many"] spTies) (D__law_draw : Df P w K mg base k "_law_draw" ["_law_bag_here", "_law_many"] spDraw) (D__law_like : Df P w K mg base k "_law_like" ["_law_work", "_law_case"] spLk) (D__law_group : Df P w K mg base k "_law_group" ["_law_case", "_law_web_here", "_law_colour", "_law_points_here"] spGroup) (F : FunD K "_law_grown" "_law_grown" (defArgs (top 32)) (defBody (top 32)) (defScope (top 32)) [] [] f fd) : FnOk P w K mg base CX0 (k + 1) f fd ["_law_bag_here", "_law_work", "_law_case", "_law_hue_here"] (spGrown (k2 + 1)) :=
  fn_goT F sc__law_grown (fun cdv A outer s H E hr => w__law_grown hr B D__law_grown D__law_hue D__law_ties D__law_draw D__law_like D__law_group) (fun a m h => rfl) (fun a m h A hA => b_grown h.1 h.2 hA)
theorem dr__law_grown (S : Hds K mg) : ∀ n, Df P w K mg base (2 + n) "_law_grown" ["_law_bag_here", "_law_work", "_law_case", "_law_hue_here"] (spGrown n) := fun n => by
  obtain ⟨fd, F⟩ := S.c.def_ 33 (d := ddf 32 "_law_grown") rfl
  induction n with
  | zero => exact ⟨_, fd, fn_none fun a m q => absurd q.1 (Nat.not_lt_zero _), hd_glo S 27 rfl, F.kp, (F.bindsN fun _ _ _ _ _ _ us hl => match us, hl with | [_, _, _, _], _ => rfl)⟩
  | succ n ih =>
    exact ⟨_, fd, ok__law_grown (k := 2 + n) (hd_blt S) ih ((df__law_hue S).mono (show 1 ≤ 2 + n by omega)) ((df__law_ties S).mono (show 1 ≤ 2 + n by omega)) ((df__law_draw S).mono (show 2 ≤ 2 + n by omega)) ((df__law_like S).mono (show 2 ≤ 2 + n by omega)) ((df__law_group S).mono (show 2 ≤ 2 + n by omega)) F, hd_glo S 27 rfl, F.kp, (F.bindsN fun _ _ _ _ _ _ us hl => match us, hl with | [_, _, _, _], _ => rfl)⟩
theorem df__law_grown (S : Hds K mg) : Df P w K mg base 13 "_law_grown" ["_law_bag_here", "_law_work", "_law_case", "_law_hue_here"] (spGrown 11) := dr__law_grown S 11
theorem ok__law_tree {f : Addr} {fd : FuncData} {k : Nat} (B : Blt mg) (D__law_grown : Df P w K mg base k "_law_grown" ["_law_bag_here", "_law_work", "_law_case", "_law_hue_here"] (spGrown 11)) (D__law_orders : Df P w K mg base k "_law_orders" ["_law_many"] spOrders) (D__law_swaps : Df P w K mg base k "_law_swaps" ["_law_demand_here"] spSwaps) (D__law_turned : Df P w K mg base k "_law_turned" ["_law_bag_here", "_law_many"] spTurned) (F : FunD K "_law_tree" "_law_tree" (defArgs (top 33)) (defBody (top 33)) (defScope (top 33)) [] [] f fd) : FnOk P w K mg base CX0 (k + 1) f fd ["_law_bag_here", "_law_demand_here", "_law_few", "_law_many"] spTreeL :=
  fn_goT F sc__law_tree (fun cdv A outer s H E hr => w__law_tree hr B D__law_grown D__law_orders D__law_swaps D__law_turned) (fun a m h => rfl) (fun a m h A hA => b_lawtree h)
theorem df__law_tree (S : Hds K mg) : Df P w K mg base 14 "_law_tree" ["_law_bag_here", "_law_demand_here", "_law_few", "_law_many"] spTreeL := by
  obtain ⟨fd, F⟩ := S.c.def_ 34 (d := ddf 33 "_law_tree") rfl
  exact ⟨_, fd, ok__law_tree (k := 13) (hd_blt S) ((df__law_grown S).mono (by decide)) ((df__law_orders S).mono (by decide)) ((df__law_swaps S).mono (by decide)) ((df__law_turned S).mono (by decide)) F, hd_glo S 28 rfl, F.kp, (F.bindsN fun _ _ _ _ _ _ us hl => match us, hl with | [_, _, _, _], _ => rfl)⟩
theorem ok__law_naive {f : Addr} {fd : FuncData} {k : Nat} (B : Blt mg) (D__law_group : Df P w K mg base k "_law_group" ["_law_case", "_law_web_here", "_law_colour", "_law_points_here"] spGroup) (D__law_ties : Df P w K mg base k "_law_ties" ["_law_many"] spTies) (F : FunD K "_law_naive" "_law_naive" (defArgs (top 26)) (defBody (top 26)) (defScope (top 26)) [] [] f fd) : FnOk P w K mg base CX0 (k + 1) f fd ["_law_demand_here", "_law_many", "_law_most"] spNaive :=
  fn_goT F sc__law_naive (fun cdv A outer s H E hr => w__law_naive hr B D__law_group D__law_ties) (fun a m h => rfl) (fun a m h A hA => b_naive h)
theorem df__law_naive (S : Hds K mg) : Df P w K mg base 3 "_law_naive" ["_law_demand_here", "_law_many", "_law_most"] spNaive := by
  obtain ⟨fd, F⟩ := S.c.def_ 27 (d := ddf 26 "_law_naive") rfl
  exact ⟨_, fd, ok__law_naive (k := 2) (hd_blt S) ((df__law_group S).mono (by decide)) ((df__law_ties S).mono (by decide)) F, hd_glo S 21 rfl, F.kp, (F.bindsN fun _ _ _ _ _ _ us hl => match us, hl with | [_, _, _], _ => rfl)⟩
theorem ok__law_none {f : Addr} {fd : FuncData} {k : Nat} (B : Blt mg) (D__law_naive : Df P w K mg base k "_law_naive" ["_law_demand_here", "_law_many", "_law_most"] spNaive) (F : FunD K "_law_none" "_law_none" (defArgs (top 27)) (defBody (top 27)) (defScope (top 27)) [] [] f fd) : FnOk P w K mg base CX0 (k + 1) f fd ["_law_demand_here", "_law_most"] spNone :=
  fn_goT F sc__law_none (fun cdv A outer s H E hr => w__law_none hr B D__law_naive) (fun a m h => rfl) (fun a m h A hA => b_none h)
theorem df__law_none (S : Hds K mg) : Df P w K mg base 4 "_law_none" ["_law_demand_here", "_law_most"] spNone := by
  obtain ⟨fd, F⟩ := S.c.def_ 28 (d := ddf 27 "_law_none") rfl
  exact ⟨_, fd, ok__law_none (k := 3) (hd_blt S) ((df__law_naive S).mono (by decide)) F, hd_glo S 22 rfl, F.kp, (F.bindsN fun _ _ _ _ _ _ us hl => match us, hl with | [_, _], _ => rfl)⟩
theorem ok__law_named {f : Addr} {fd : FuncData} {k : Nat} (B : Blt mg) (D__law_moved_web : Df P w K mg base k "_law_moved_web" ["_law_web_here", "_law_order"] spMoved) (D__law_turned : Df P w K mg base k "_law_turned" ["_law_bag_here", "_law_many"] spTurned) (D__law_draw : Df P w K mg base k "_law_draw" ["_law_bag_here", "_law_many"] spDraw) (F : FunD K "_law_named" "_law_named" (defArgs (top 36)) (defBody (top 36)) (defScope (top 36)) [] [] f fd) : FnOk P w K mg base CX0 (k + 1) f fd ["_law_bag_here"] spNamed :=
  fn_goT F sc__law_named (fun cdv A outer s H E hr => w__law_named hr B D__law_moved_web D__law_turned D__law_draw) (fun a m h => rfl) (fun a m h A hA => b_named h)
theorem df__law_named (S : Hds K mg) : Df P w K mg base 4 "_law_named" ["_law_bag_here"] spNamed := by
  obtain ⟨fd, F⟩ := S.c.def_ 37 (d := ddf 36 "_law_named") rfl
  exact ⟨_, fd, ok__law_named (k := 3) (hd_blt S) ((df__law_moved_web S).mono (by decide)) ((df__law_turned S).mono (by decide)) ((df__law_draw S).mono (by decide)) F, hd_glo S 31 rfl, F.kp, (F.bindsN fun _ _ _ _ _ _ us hl => match us, hl with | [_], _ => rfl)⟩
theorem ok__law_demand {f : Addr} {fd : FuncData} {k : Nat} (B : Blt mg) (D__law_draw : Df P w K mg base k "_law_draw" ["_law_bag_here", "_law_many"] spDraw) (D__law_moved_web : Df P w K mg base k "_law_moved_web" ["_law_web_here", "_law_order"] spMoved) (D__law_turned : Df P w K mg base k "_law_turned" ["_law_bag_here", "_law_many"] spTurned) (D__law_web : Df P w K mg base k "_law_web" ["_law_bag_here", "_law_most"] spWeb) (F : FunD K "_law_demand" "_law_demand" (defArgs (top 23)) (defBody (top 23)) (defScope (top 23)) [] [] f fd) : FnOk P w K mg base CX0 (k + 1) f fd ["_law_bag_here", "_law_colours", "_law_most"] spDem :=
  fn_goT F sc__law_demand (fun cdv A outer s H E hr => w__law_demand hr B D__law_draw D__law_moved_web D__law_turned D__law_web) (fun a m h => rfl) (fun a m h A hA => b_dem h)
theorem df__law_demand (S : Hds K mg) : Df P w K mg base 5 "_law_demand" ["_law_bag_here", "_law_colours", "_law_most"] spDem := by
  obtain ⟨fd, F⟩ := S.c.def_ 24 (d := ddf 23 "_law_demand") rfl
  exact ⟨_, fd, ok__law_demand (k := 4) (hd_blt S) ((df__law_draw S).mono (by decide)) ((df__law_moved_web S).mono (by decide)) ((df__law_turned S).mono (by decide)) ((df__law_web S).mono (by decide)) F, hd_glo S 18 rfl, F.kp, (F.bindsN fun _ _ _ _ _ _ us hl => match us, hl with | [_, _, _], _ => rfl)⟩
theorem ok__law_scene {f : Addr} {fd : FuncData} {k : Nat} (B : Blt mg) (D__law_draw : Df P w K mg base k "_law_draw" ["_law_bag_here", "_law_many"] spDraw) (D__law_none : Df P w K mg base k "_law_none" ["_law_demand_here", "_law_most"] spNone) (D__law_named : Df P w K mg base k "_law_named" ["_law_bag_here"] spNamed) (D__law_demand : Df P w K mg base k "_law_demand" ["_law_bag_here", "_law_colours", "_law_most"] spDem) (F : FunD K "_law_scene" "_law_scene" (defArgs (top 37)) (defBody (top 37)) (defScope (top 37)) [] [] f fd) : FnOk P w K mg base CX0 (k + 1) f fd ["_law_bag_here"] spScene :=
  fn_goT F sc__law_scene (fun cdv A outer s H E hr => w__law_scene hr B D__law_draw D__law_none D__law_named D__law_demand) (fun a m h => rfl) (fun a m h A hA => b_scene h)
theorem df__law_scene (S : Hds K mg) : Df P w K mg base 6 "_law_scene" ["_law_bag_here"] spScene := by
  obtain ⟨fd, F⟩ := S.c.def_ 38 (d := ddf 37 "_law_scene") rfl
  exact ⟨_, fd, ok__law_scene (k := 5) (hd_blt S) ((df__law_draw S).mono (by decide)) ((df__law_none S).mono (by decide)) ((df__law_named S).mono (by decide)) ((df__law_demand S).mono (by decide)) F, hd_glo S 32 rfl, F.kp, (F.bindsN fun _ _ _ _ _ _ us hl => match us, hl with | [_], _ => rfl)⟩
theorem ok__law_bag {f : Addr} {fd : FuncData} {k : Nat} (B : Blt mg) (D__law_mix : Df P w K mg base k "_law_mix" ["_law_bag_here"] spMix) (F : FunD K "_law_bag" "_law_bag" (defArgs (top 17)) (defBody (top 17)) (defScope (top 17)) [] [] f fd) : FnOk P w K mg base CX0 (k + 1) f fd ["_law_cell"] spBag :=
  fn_goT F sc__law_bag (fun cdv A outer s H E hr => w__law_bag hr B D__law_mix) (fun a m h => rfl) (fun a m h A hA => b_bag)
theorem df__law_bag (S : Hds K mg) : Df P w K mg base 2 "_law_bag" ["_law_cell"] spBag := by
  obtain ⟨fd, F⟩ := S.c.def_ 18 (d := ddf 17 "_law_bag") rfl
  exact ⟨_, fd, ok__law_bag (k := 1) (hd_blt S) ((df__law_mix S).mono (by decide)) F, hd_glo S 12 rfl, F.kp, (F.bindsN fun _ _ _ _ _ _ us hl => match us, hl with | [_], _ => rfl)⟩
theorem ok_law {f : Addr} {fd : FuncData} {k : Nat} (B : Blt mg) (D__law_is : Df P w K mg base k "_law_is" ["_law_found", "_law_due"] spIs) (D_tree_holds : Df P w K mg base k "tree_holds" ["demand", "many", "tree"] spTree) (D__law_judged : Df P w K mg base k "_law_judged" ["_law_scene_here", "_law_tree_here", "_law_case", "_law_ends"] (spJud 31)) (D__law_swaps : Df P w K mg base k "_law_swaps" ["_law_demand_here"] spSwaps) (D__law_draw : Df P w K mg base k "_law_draw" ["_law_bag_here", "_law_many"] spDraw) (D__law_other_demand : Df P w K mg base k "_law_other_demand" ["_law_bag_here", "_law_demand_here"] spOD) (D__law_other_tree : Df P w K mg base k "_law_other_tree" ["_law_bag_here", "_law_tree_here", "_law_many", "_law_colours"] (spOT 31)) (D__law_tree : Df P w K mg base k "_law_tree" ["_law_bag_here", "_law_demand_here", "_law_few", "_law_many"] spTreeL) (D__law_scene : Df P w K mg base k "_law_scene" ["_law_bag_here"] spScene) (D__law_bag : Df P w K mg base k "_law_bag" ["_law_cell"] spBag) (F : FunD K "law" "law" (defArgs (top 47)) (defBody (top 47)) (defScope (top 47)) [] [] f fd) : FnOk P w K mg base CX0 (k + 1) f fd ["_law_script"] (spLaw K) :=
  F.ok sc_law (fun vs H Q E h => by obtain ⟨a, ns, rfl, _⟩ := h; rfl) fun cdv A outer s H vs Q E hr h => ⟨_, (w_law hr B D__law_is D_tree_holds D__law_judged D__law_swaps D__law_draw D__law_other_demand D__law_other_tree D__law_tree D__law_scene D__law_bag).nox, raw_law vs H Q E h⟩
theorem facts (S : Hds K mg) {f : Addr} (hfa : mg ("law" : Str) = some (.ref f)) :
    ∃ fd : FuncData, (∀ (s : Shared) (v : Value), BindsTo s fd ⟨[v], []⟩ [("_law_script", v)]) ∧ ∀ base : Heap, FnOk P w K mg base CX0 98 f fd ["_law_script"] (spLaw K) := by
  obtain ⟨fd, F⟩ := S.c.def_ 48 (d := ddf 47 "law") rfl
  have e := hfa.symm.trans (hd_glo S 42 rfl)
  cases e
  have b := FunD.bindsA (ps := ["_law_script"]) F fun _ _ _ _ _ _ us hl => match us, hl with | [_], _ => rfl
  exact ⟨fd, fun s v => b s [v] rfl, fun base => ok_law (k := 97) (hd_blt S) ((df__law_is S).mono (by decide)) ((df_tree_holds S).mono (by decide)) ((df__law_judged S).mono (by decide)) ((df__law_swaps S).mono (by decide)) ((df__law_draw S).mono (by decide)) ((df__law_other_demand S).mono (by decide)) ((df__law_other_tree S).mono (by decide)) ((df__law_tree S).mono (by decide)) ((df__law_scene S).mono (by decide)) ((df__law_bag S).mono (by decide)) F⟩
end
end Hue
open PySem PySem.W PySem.Calls PyProof.Rows
theorem PySem.Challenge.cw_huebound_k61_whole_trees_changed_holds : PySem.Challenge.rw_huebound_k61_whole_trees_changed.Holds := by
  w_on; o_law
  refine HandSHeadRun.head_any (r := OpenLaw.row PySem.Challenge.rw_huebound_k61_whole_trees_changed) (q := view (OpenLaw.row PySem.Challenge.rw_huebound_k61_whole_trees_changed).prog [47]) (H := Hue.hk) (ob := Hue.ob) (M := 6000) (loose := Hue.loose) (d := HandSHeadRun.topDef (OpenLaw.row PySem.Challenge.rw_huebound_k61_whole_trees_changed).prog 47) (kwd := []) Hue.ob_eq
    (by kernel_rfl) (fun s => by kernel_rfl) Hue.runO (by kernel_rfl) (by kernel_rfl) (by kernel_rfl) (by rfl) (by first | assumption | decide +kernel) (by decide +kernel) ⟨rfl, rfl, rfl, rfl, rfl, by decide +kernel⟩ ?hw ?hc
  case hw => w_witness2
  case hc =>
    refine L2.walk_ofE (l := PySem.Challenge.rw_huebound_k61_whole_trees_changed) (n := 63) (k := 98) (x := "_law_script") (CX := L2.CX0) rfl (by decide) (by kernel_rfl) ⟨rfl, by decide, by decide⟩ ?F (fun _ _ _ _ z => z)
    intro w mg fa h Y G hmg0
    obtain ⟨K, KX, c⟩ := Y
    have hmg : mg ("law" : PySem.Str) = some (.ref fa) := by
      have e : (HandSHeadRun.topDef (OpenLaw.row PySem.Challenge.rw_huebound_k61_whole_trees_changed).prog 47).name = ("law" : PySem.Str) := by kernel_rfl
      rw [← e]
      exact hmg0
    obtain ⟨fd, hb, hF⟩ := Hue.facts (P := (PySem.Challenge.rw_huebound_k61_whole_trees_changed).prog) (w := w) (K := K) (mg := mg) ⟨c, h, KX, G⟩ hmg
    exact ⟨K, fd, Hue.spLaw K, KX, hb, fun H a ns hl _ hS => ⟨a, ns, rfl, hl, hS, fun _ => rfl⟩, fun base _ _ => hF base⟩
