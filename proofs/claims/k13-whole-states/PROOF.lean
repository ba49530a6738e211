import PyProof.Rows.All
import Wide.All
import OpenK.AllK
import Wide.FinOn
import PySem.Challenge.RW_partsmet_k13_whole_states_of_kinds
import HandS.ForMost
import HandS.ForExc
import HandS.IsInst
import HandS.Zip
import HandS.TupAny
import HandS.TupSets
import HandS.Style
import HandS.WideBits
import HandS.ExcInit
import HandS.ExcField
import PyProof.ReprRoads
import HandS.Defaults
import PyProof.ReprText
import PyProof.ReprLen
import PyProof.StrLawsRepr
import PyProof.EqLayable
import HandS.HeadHook4
import HandS.HeadEnd
import HandS.Head2
import KE.KStateDown
import Lean
import HandS.Ends
set_option Elab.async false
set_option linter.all false
set_option maxRecDepth 100000
set_option maxHeartbeats 0
/-! Data in the heap, readings that give data. -/
namespace Pm
open PySem PySem.Spec PyProof.Rows L2

/-! ### a heap without some places -/
def hid (ps : List Addr) (H : Hp) : Hp := fun a => if a ∈ ps then none else H a
theorem hid_of {ps : List Addr} {H : Hp} {a : Addr} {o : HO} (h : H a = some o) (n : a ∉ ps) : hid ps H a = some o := by
  unfold hid; rw [if_neg n]; exact h
theorem of_hid {ps : List Addr} {H : Hp} {a : Addr} {o : HO} (h : hid ps H a = some o) : H a = some o ∧ a ∉ ps := by
  unfold hid at h
  by_cases n : a ∈ ps
  · rw [if_pos n] at h; cases h
  · rw [if_neg n] at h; exact ⟨h, n⟩
theorem hid_same {ps : List Addr} {H H' : Hp} (e : Same H H') : Same (hid ps H) (hid ps H') := fun a o h => by
  obtain ⟨h1, n⟩ := of_hid h
  exact hid_of (e a o h1) n
theorem same_upd {H : Hp} {p : Addr} {o : HO} (h : H p = none) : Same H (upd H p o) := fun b x e => by
  rw [upd_ne (ne_of_none e h)]; exact e
theorem hid_less {ps qs : List Addr} {H : Hp} (s : ∀ a ∈ qs, a ∈ ps) : Same (hid ps H) (hid qs H) := fun a o h => by
  obtain ⟨h1, n⟩ := of_hid h
  exact hid_of h1 fun m => n (s a m)

/-! ### data in a heap -/
mutual
def Dt (H : Hp) : PyData → V → Prop
  | .none, v => v = .non
  | .bool b, v => v = .bl b
  | .int i, v => v = .int i
  | .str x, v => v = .str x
  | .list ds, v => ∃ a xs, v = .ref a ∧ H a = some (.lst xs) ∧ DtA H ds xs
  | .tuple ds, v => ∃ a xs, v = .ref a ∧ H a = some (.tup xs) ∧ DtA H ds xs
  | .dict _, _ => False
def DtA (H : Hp) : List PyData → List V → Prop
  | [], xs => xs = []
  | d :: ds, xs => ∃ v vs, xs = v :: vs ∧ Dt H d v ∧ DtA H ds vs
end
mutual
theorem Dt.mono {H H' : Hp} (e : Same H H') : ∀ {d : PyData} {v : V}, Dt H d v → Dt H' d v
  | .none, _, h => h
  | .bool _, _, h => h
  | .int _, _, h => h
  | .str _, _, h => h
  | .list ds, v, h => by
    simp only [Dt] at h ⊢
    obtain ⟨a, xs, e1, h1, h2⟩ := h
    exact ⟨a, xs, e1, e _ _ h1, DtA.mono e h2⟩
  | .tuple ds, v, h => by
    simp only [Dt] at h ⊢
    obtain ⟨a, xs, e1, h1, h2⟩ := h
    exact ⟨a, xs, e1, e _ _ h1, DtA.mono e h2⟩
  | .dict _, _, h => by simp only [Dt] at h
theorem DtA.mono {H H' : Hp} (e : Same H H') : ∀ {ds : List PyData} {vs : List V}, DtA H ds vs → DtA H' ds vs
  | [], _, h => by simpa only [DtA] using h
  | d :: ds, xs, h => by
    simp only [DtA] at h ⊢
    obtain ⟨v, vs, e1, h1, h2⟩ := h
    exact ⟨v, vs, e1, Dt.mono e h1, DtA.mono e h2⟩
end
mutual
theorem Dt.dp {K : PySem.W.Frag} {H : Hp} : ∀ {d : PyData} {v : V}, Dt H d v → Dp K H v d
  | .none, _, h => by simp only [Dt] at h; subst h; exact .non
  | .bool _, _, h => by simp only [Dt] at h; subst h; exact .bl _
  | .int _, _, h => by simp only [Dt] at h; subst h; exact .int _
  | .str _, _, h => by simp only [Dt] at h; subst h; exact .str _
  | .list ds, v, h => by
    simp only [Dt] at h
    obtain ⟨a, xs, e1, h1, h2⟩ := h
    subst e1
    exact .lst (SqL.of h1) (DtA.dp h2)
  | .tuple ds, v, h => by
    simp only [Dt] at h
    obtain ⟨a, xs, e1, h1, h2⟩ := h
    subst e1
    exact .tup (SqT.of h1) (DtA.dp h2)
  | .dict _, _, h => by simp only [Dt] at h
theorem DtA.dp {K : PySem.W.Frag} {H : Hp} : ∀ {ds : List PyData} {vs : List V}, DtA H ds vs → DpAll K H vs ds
  | [], _, h => by simp only [DtA] at h; subst h; exact .nil
  | d :: ds, xs, h => by
    simp only [DtA] at h
    obtain ⟨v, vs, e1, h1, h2⟩ := h
    subst e1
    exact .cons (Dt.dp h1) (DtA.dp h2)
end
theorem DtA.length {H : Hp} : ∀ {ds : List PyData} {vs : List V}, DtA H ds vs → vs.length = ds.length
  | [], _, h => by simp only [DtA] at h; subst h; rfl
  | d :: ds, xs, h => by
    simp only [DtA] at h
    obtain ⟨v, vs, e1, h1, h2⟩ := h
    subst e1
    rw [List.length_cons, List.length_cons, DtA.length h2]
theorem DtA.get {H : Hp} : ∀ {ds : List PyData} {vs : List V} {i : Nat} {d : PyData}, DtA H ds vs → ds[i]? = some d → ∃ v, vs[i]? = some v ∧ Dt H d v
  | [], _, _, _, _, e => by simp at e
  | d :: ds, xs, 0, d', h, e => by
    simp only [DtA] at h
    obtain ⟨v, vs, e1, h1, h2⟩ := h
    subst e1
    have e2 : d = d' := by simpa using e
    subst e2
    exact ⟨v, rfl, h1⟩
  | d :: ds, xs, i + 1, d', h, e => by
    simp only [DtA] at h
    obtain ⟨v, vs, e1, h1, h2⟩ := h
    subst e1
    obtain ⟨w, q1, q2⟩ := DtA.get (i := i) h2 (by simpa using e)
    exact ⟨w, by simpa using q1, q2⟩
/-- the datum behind a value -/
theorem DtA.got {H : Hp} : ∀ {ds : List PyData} {vs : List V} {i : Nat} {v : V}, DtA H ds vs → vs[i]? = some v → ∃ d, ds[i]? = some d ∧ Dt H d v
  | [], _, _, _, h, e => by
    simp only [DtA] at h
    subst h
    simp at e
  | d :: ds, xs, 0, v', h, e => by
    simp only [DtA] at h
    obtain ⟨v, vs, e1, h1, h2⟩ := h
    subst e1
    have e2 : v = v' := by simpa using e
    subst e2
    exact ⟨d, rfl, h1⟩
  | d :: ds, xs, i + 1, v', h, e => by
    simp only [DtA] at h
    obtain ⟨v, vs, e1, h1, h2⟩ := h
    subst e1
    obtain ⟨w, q1, q2⟩ := DtA.got (i := i) h2 (by simpa using e)
    exact ⟨w, by simpa using q1, q2⟩
theorem DtA.nil {H : Hp} : DtA H [] [] := by simp only [DtA]
theorem DtA.cons {H : Hp} {d : PyData} {ds : List PyData} {v : V} {vs : List V} (h : Dt H d v) (hs : DtA H ds vs) : DtA H (d :: ds) (v :: vs) := by
  simp only [DtA]; exact ⟨v, vs, rfl, h, hs⟩
theorem DtA.append {H : Hp} : ∀ {ds es : List PyData} {vs ws : List V}, DtA H ds vs → DtA H es ws → DtA H (ds ++ es) (vs ++ ws)
  | [], _, _, _, h, h' => by simp only [DtA] at h; subst h; exact h'
  | d :: ds, es, xs, ws, h, h' => by
    simp only [DtA] at h
    obtain ⟨v, vs, e1, h1, h2⟩ := h
    subst e1
    exact DtA.cons h1 (DtA.append h2 h')
theorem DtA.take {H : Hp} : ∀ {ds : List PyData} {vs : List V} (n : Nat), DtA H ds vs → DtA H (ds.take n) (vs.take n)
  | [], _, n, h => by simp only [DtA] at h; subst h; simp [DtA]
  | d :: ds, xs, 0, h => by simp [DtA]
  | d :: ds, xs, n + 1, h => by
    simp only [DtA] at h
    obtain ⟨v, vs, e1, h1, h2⟩ := h
    subst e1
    exact DtA.cons h1 (DtA.take n h2)
theorem DtA.drop {H : Hp} : ∀ {ds : List PyData} {vs : List V} (n : Nat), DtA H ds vs → DtA H (ds.drop n) (vs.drop n)
  | [], _, n, h => by simp only [DtA] at h; subst h; simp [DtA]
  | d :: ds, xs, 0, h => h
  | d :: ds, xs, n + 1, h => by
    simp only [DtA] at h
    obtain ⟨v, vs, e1, h1, h2⟩ := h
    subst e1
    exact DtA.drop n h2
theorem DtA.set {H : Hp} {d : PyData} {v : V} (hd : Dt H d v) : ∀ {ds : List PyData} {vs : List V} (i : Nat), DtA H ds vs → DtA H (ds.set i d) (vs.set i v)
  | [], _, n, h => by simp only [DtA] at h; subst h; simp [DtA]
  | _ :: ds, xs, 0, h => by
    simp only [DtA] at h
    obtain ⟨v, vs, e1, h1, h2⟩ := h
    subst e1
    exact DtA.cons hd h2
  | _ :: ds, xs, n + 1, h => by
    simp only [DtA] at h
    obtain ⟨v, vs, e1, h1, h2⟩ := h
    subst e1
    exact DtA.cons h1 (DtA.set hd n h2)
theorem DtA.reverse {H : Hp} : ∀ {ds : List PyData} {vs : List V}, DtA H ds vs → DtA H ds.reverse vs.reverse
  | [], _, h => by simp only [DtA] at h; subst h; simp [DtA]
  | d :: ds, xs, h => by
    simp only [DtA] at h
    obtain ⟨v, vs, e1, h1, h2⟩ := h
    subst e1
    rw [List.reverse_cons, List.reverse_cons]
    exact DtA.append (DtA.reverse h2) (DtA.cons h1 DtA.nil)
theorem DtA.ints {H : Hp} : ∀ ns : List Int, DtA H (ns.map .int) (ns.map .int)
  | [] => by simp [DtA]
  | n :: ns => DtA.cons (by simp only [Dt]) (DtA.ints ns)
theorem DtA.ints_inv {H : Hp} : ∀ {ns : List Int} {vs : List V}, DtA H (ns.map .int) vs → vs = ns.map .int
  | [], _, h => by simpa [DtA] using h
  | n :: ns, _, h => by
    simp only [List.map_cons, DtA] at h
    obtain ⟨v, vs, e1, h1, h2⟩ := h
    simp only [Dt] at h1
    rw [e1, h1, DtA.ints_inv h2]; rfl
theorem DtA.bls_inv {H : Hp} : ∀ {ns : List Bool} {vs : List V}, DtA H (ns.map .bool) vs → vs = ns.map .bl
  | [], _, h => by simpa [DtA] using h
  | n :: ns, _, h => by
    simp only [List.map_cons, DtA] at h
    obtain ⟨v, vs, e1, h1, h2⟩ := h
    simp only [Dt] at h1
    rw [e1, h1, DtA.bls_inv h2]; rfl
theorem DtA.strs_inv {H : Hp} : ∀ {ns : List Str} {vs : List V}, DtA H (ns.map .str) vs → vs = ns.map .str
  | [], _, h => by simpa [DtA] using h
  | n :: ns, _, h => by
    simp only [List.map_cons, DtA] at h
    obtain ⟨v, vs, e1, h1, h2⟩ := h
    simp only [Dt] at h1
    rw [e1, h1, DtA.strs_inv h2]; rfl

/-! ### the names' data -/
abbrev Rho := List (Option PyData)
/-- the slots hold these data, away from ps (all of which are tracked) -/
structure Ok (ps : List Addr) (H : Hp) (σ : L2.St) (ρ : Rho) : Prop where
  len : σ.length = ρ.length
  val : ∀ (i : Nat) (d : PyData), ρ[i]? = some (some d) → ∃ v, σ[i]? = some (some v) ∧ Dt (hid ps H) d v
  al : ∀ a ∈ ps, H a ≠ none
section
variable {ps : List Addr} {H H' : Hp} {σ : L2.St} {ρ : Rho}
theorem al_mono (e : Same H H') (h : ∀ a ∈ ps, H a ≠ none) : ∀ a ∈ ps, H' a ≠ none := fun a m z => by
  cases q : H a with
  | none => exact h a m q
  | some o => rw [e a o q] at z; cases z
theorem Ok.mono (h : Ok ps H σ ρ) (e : Same H H') : Ok ps H' σ ρ :=
  ⟨h.len, fun i d q => let ⟨v, q1, q2⟩ := h.val i d q; ⟨v, q1, q2.mono (hid_same e)⟩, al_mono e h.al⟩
theorem Ok.set (h : Ok ps H σ ρ) (i : Nat) {v : V} {d : PyData} (hd : Dt (hid ps H) d v) : Ok ps H (σ.set i (some v)) (ρ.set i (some d)) := by
  refine ⟨by rw [List.length_set, List.length_set, h.len], fun j e q => ?_, h.al⟩
  by_cases hj : i = j
  · subst hj
    have hl : i < ρ.length := by
      have := (List.getElem?_eq_some_iff.mp q).1
      rwa [List.length_set] at this
    rw [List.getElem?_set_self hl] at q
    cases q
    exact ⟨v, by rw [List.getElem?_set_self (by rw [h.len]; exact hl)], hd⟩
  · rw [List.getElem?_set_ne hj] at q
    rw [List.getElem?_set_ne hj]
    exact h.val j e q
/-- a slot's datum is no longer told -/
theorem Ok.forget (h : Ok ps H σ ρ) (i : Nat) (x : Option V) : Ok ps H (σ.set i x) (ρ.set i none) := by
  refine ⟨by rw [List.length_set, List.length_set, h.len], fun j e q => ?_, h.al⟩
  by_cases hj : i = j
  · subst hj
    have hl : i < ρ.length := by
      have := (List.getElem?_eq_some_iff.mp q).1
      rwa [List.length_set] at this
    rw [List.getElem?_set_self hl] at q
    cases q
  · rw [List.getElem?_set_ne hj] at q
    rw [List.getElem?_set_ne hj]
    exact h.val j e q
/-- fewer data told -/
theorem Ok.less {ρ' : Rho} (h : Ok ps H σ ρ) (hl : ρ'.length = ρ.length) (hs : ∀ (i : Nat) d, ρ'[i]? = some (some d) → ρ[i]? = some (some d)) : Ok ps H σ ρ' :=
  ⟨h.len.trans hl.symm, fun i d q => h.val i d (hs i d q), h.al⟩
def wipeR (ρ : Rho) : List Nat → Rho
  | [] => ρ
  | v :: vs => (wipeR ρ vs).set v none
theorem Ok.wipe (h : Ok ps H σ ρ) : ∀ vs : List Nat, Ok ps H (L2.wipe σ vs) (wipeR ρ vs)
  | [] => h
  | v :: vs => (Ok.wipe h vs).forget v none
theorem Ok.dt (h : Ok ps H σ ρ) {i : Nat} {d : PyData} (e : ρ[i]? = some (some d)) : ∃ v, σ[i]? = some (some v) ∧ Dt (hid ps H) d v := h.val i d e
end

/-! ### what a reading gives, whatever else is hidden -/
/-- an expression -/
def EvD (te : TE) (ρ : Rho) (d : PyData) : Prop := ∀ ps σ H, Ok ps H σ ρ → ∀ Q : VK, (∀ v H2, Same H H2 → Dt (hid ps H2) d v → Q v H2) → te σ H Q
/-- a new list -/
def EvN (te : TE) (ρ : Rho) (ds : List PyData) : Prop := ∀ ps σ H, Ok ps H σ ρ → ∀ Q : VK, (∀ p xs H2, H p = none → Same H H2 → H2 p = some (.lst xs) → DtA (hid (p :: ps) H2) ds xs → Q (.ref p) H2) → te σ H Q
/-- a test -/
def EvT (tt : TT) (ρ : Rho) (b : Bool) : Prop := ∀ ps σ H, Ok ps H σ ρ → ∀ Q : Bool → Hp → Prop, (∀ H2, Same H H2 → Q b H2) → tt σ H Q
/-- arguments -/
def EvA (ta : TA) (ρ : Rho) (ds : List PyData) : Prop := ∀ ps σ H, Ok ps H σ ρ → ∀ Q : List V → Hp → Prop, (∀ vs H2, Same H H2 → DtA (hid ps H2) ds vs → Q vs H2) → ta σ H Q
/-- an operation on values -/
def RvD (r : R2) (d e c : PyData) : Prop := ∀ (ps : List Addr) x y H, (∀ a ∈ ps, H a ≠ none) → Dt (hid ps H) d x → Dt (hid ps H) e y → ∀ Q : VK, (∀ v H2, Same H H2 → Dt (hid ps H2) c v → Q v H2) → r x y H Q
def RcD (r : List V → Hp → VK → Prop) (ds : List PyData) (c : PyData) : Prop := ∀ (ps : List Addr) xs H, (∀ a ∈ ps, H a ≠ none) → DtA (hid ps H) ds xs → ∀ Q : VK, (∀ v H2, Same H H2 → Dt (hid ps H2) c v → Q v H2) → r xs H Q
/-- how a block ends -/
inductive Out where
  | ret (d : PyData)
  | next (ρ : Rho)
def SvO (ts : TS) (ρ : Rho) : Out → Prop
  | .ret d => ∀ ps σ H (D : Ends), Ok ps H σ ρ → (∀ v H2, Same H H2 → Dt (hid ps H2) d v → D.rt v H2) → ts D σ H
  | .next ρ' => ∀ ps σ H (D : Ends), Ok ps H σ ρ → (∀ σ2 H2, Same H H2 → Ok ps H2 σ2 ρ' → D.nx σ2 H2) → ts D σ H

/-- places that are hidden stay apart from what is new -/
theorem dt_under {ps : List Addr} {H : Hp} {p : Addr} {o : HO} {d : PyData} {v : V} (np : H p = none) (h : Dt (hid ps H) d v) : Dt (hid (p :: ps) (upd H p o)) d v := h.mono fun a u ha => by
  obtain ⟨h1, h2⟩ := of_hid ha
  have hn : a ≠ p := fun z => by rw [z, np] at h1; cases h1
  exact hid_of (by rw [upd_ne hn]; exact h1) (by simp only [List.mem_cons, not_or]; exact ⟨hn, h2⟩)
theorem dta_under {ps : List Addr} {H : Hp} {p : Addr} {o : HO} {d : List PyData} {v : List V} (np : H p = none) (h : DtA (hid ps H) d v) : DtA (hid (p :: ps) (upd H p o)) d v := h.mono fun a u ha => by
  obtain ⟨h1, h2⟩ := of_hid ha
  have hn : a ≠ p := fun z => by rw [z, np] at h1; cases h1
  exact hid_of (by rw [upd_ne hn]; exact h1) (by simp only [List.mem_cons, not_or]; exact ⟨hn, h2⟩)
theorem dt_lst {ps : List Addr} {H : Hp} {a : Addr} {xs : List V} {ds : List PyData} (n : a ∉ ps) (h : H a = some (.lst xs)) (hs : DtA (hid ps H) ds xs) : Dt (hid ps H) (.list ds) (.ref a) := by
  simp only [Dt]; exact ⟨a, xs, rfl, hid_of h n, hs⟩
theorem dt_tup {ps : List Addr} {H : Hp} {a : Addr} {xs : List V} {ds : List PyData} (n : a ∉ ps) (h : H a = some (.tup xs)) (hs : DtA (hid ps H) ds xs) : Dt (hid ps H) (.tuple ds) (.ref a) := by
  simp only [Dt]; exact ⟨a, xs, rfl, hid_of h n, hs⟩
theorem of_lst {ps : List Addr} {H : Hp} {v : V} {ds : List PyData} (h : Dt (hid ps H) (.list ds) v) : ∃ a xs, v = .ref a ∧ a ∉ ps ∧ H a = some (.lst xs) ∧ DtA (hid ps H) ds xs := by
  simp only [Dt] at h
  obtain ⟨a, xs, e, h1, h2⟩ := h
  obtain ⟨h3, h4⟩ := of_hid h1
  exact ⟨a, xs, e, h4, h3, h2⟩
theorem of_tup {ps : List Addr} {H : Hp} {v : V} {ds : List PyData} (h : Dt (hid ps H) (.tuple ds) v) : ∃ a xs, v = .ref a ∧ a ∉ ps ∧ H a = some (.tup xs) ∧ DtA (hid ps H) ds xs := by
  simp only [Dt] at h
  obtain ⟨a, xs, e, h1, h2⟩ := h
  obtain ⟨h3, h4⟩ := of_hid h1
  exact ⟨a, xs, e, h4, h3, h2⟩
theorem of_int {H : Hp} {v : V} {i : Int} (h : Dt H (.int i) v) : v = .int i := by simpa only [Dt] using h
theorem of_bl {H : Hp} {v : V} {i : Bool} (h : Dt H (.bool i) v) : v = .bl i := by simpa only [Dt] using h
theorem of_str {H : Hp} {v : V} {i : Str} (h : Dt H (.str i) v) : v = .str i := by simpa only [Dt] using h
theorem dt_int {H : Hp} {i : Int} : Dt H (.int i) (.int i) := by simp only [Dt]
theorem dt_bl {H : Hp} {i : Bool} : Dt H (.bool i) (.bl i) := by simp only [Dt]
theorem dt_str {H : Hp} {i : Str} : Dt H (.str i) (.str i) := by simp only [Dt]
theorem dt_non {H : Hp} : Dt H .none .non := by simp only [Dt]
theorem one_of {H : Hp} {d : PyData} {vs : List V} (h : DtA H [d] vs) : ∃ v, vs = [v] ∧ Dt H d v := by
  simp only [DtA] at h
  obtain ⟨v, w, e, h1, h2⟩ := h
  exact ⟨v, by rw [e, h2], h1⟩
theorem two_of {H : Hp} {d e : PyData} {vs : List V} (h : DtA H [d, e] vs) : ∃ v w, vs = [v, w] ∧ Dt H d v ∧ Dt H e w := by
  simp only [DtA] at h
  obtain ⟨v, r, e1, h1, w, r2, e2, h2, e3⟩ := h
  exact ⟨v, w, by rw [e1, e2, e3], h1, h2⟩
theorem small_ok {n : Nat} (h : n ≤ 100000) : n ≤ sizeLine := Nat.le_trans h (by decide)

section
variable {ρ ρ' : Rho} {ta tb te tx : TE} {t u : TT} {tr : TA} {r : R2} {c d e : PyData} {ds : List PyData} {b : Bool}
theorem EvD.is {d' : PyData} (h : EvD te ρ d) (q : d = d') : EvD te ρ d' := q ▸ h
theorem EvT.is {b' : Bool} (h : EvT t ρ b) (q : b = b') : EvT t ρ b' := q ▸ h
theorem EvN.toD (h : EvN te ρ ds) : EvD te ρ (.list ds) := fun ps σ H ok Q q => h ps σ H ok Q fun p xs H2 n e1 e2 e3 => q _ _ e1
  (dt_lst (fun m => ok.al p m n) e2 (e3.mono (hid_less fun a m => List.mem_cons_of_mem _ m)))
theorem EvN.is {ds' : List PyData} (h : EvN te ρ ds) (q : ds = ds') : EvN te ρ ds' := q ▸ h
theorem ev_var {i : Nat} (h : ρ[i]? = some (some d)) : EvD (tVar i) ρ d := fun ps σ H ok Q q => by
  obtain ⟨v, h1, h2⟩ := ok.val i d h
  exact ⟨v, h1, q v H (Same.refl H) h2⟩
theorem ev_int {i : Int} : EvD (tC (.int i)) ρ (.int i) := fun ps σ H ok Q q => q _ _ (Same.refl H) dt_int
theorem ev_str {x : Str} : EvD (tC (.str x)) ρ (.str x) := fun ps σ H ok Q q => q _ _ (Same.refl H) dt_str
theorem ev_bl {x : Bool} : EvD (tC (.bl x)) ρ (.bool x) := fun ps σ H ok Q q => q _ _ (Same.refl H) dt_bl
theorem ev_non : EvD (tC .non) ρ .none := fun ps σ H ok Q q => q _ _ (Same.refl H) dt_non
theorem ev_op (ha : EvD ta ρ d) (hb : EvD tb ρ e) (hr : RvD r d e c) : EvD (tOp r ta tb) ρ c := fun ps σ H ok Q q =>
  ha ps σ H ok _ fun x H1 e1 hx => hb ps σ H1 (ok.mono e1) _ fun y H2 e2 hy => hr ps x y H2 (al_mono (e1.trans e2) ok.al) (hx.mono (hid_same e2)) hy Q fun v H3 e3 hv => q v H3 ((e1.trans e2).trans e3) hv
theorem ev_cb {rr : List V → Hp → VK → Prop} (ha : EvA tr ρ ds) (hr : RcD rr ds c) : EvD (tCB rr tr) ρ c := fun ps σ H ok Q q =>
  ha ps σ H ok _ fun xs H1 e1 hx => hr ps xs H1 (al_mono e1 ok.al) hx Q fun v H2 e2 hv => q v H2 (e1.trans e2) hv
theorem ea_nil : EvA tNil ρ [] := fun ps σ H ok Q q => q [] H (Same.refl H) (by simp only [DtA])
theorem ea_cons (h : EvD te ρ d) (hr : EvA tr ρ ds) : EvA (tCons te tr) ρ (d :: ds) := fun ps σ H ok Q q =>
  h ps σ H ok _ fun v H1 e1 hv => hr ps σ H1 (ok.mono e1) _ fun vs H2 e2 hvs => q (v :: vs) H2 (e1.trans e2) (DtA.cons (hv.mono (hid_same e2)) hvs)
theorem ea_one (h : EvD te ρ d) : EvA (tCons te tNil) ρ [d] := ea_cons h ea_nil
theorem ea_two (h : EvD ta ρ d) (h2 : EvD tb ρ e) : EvA (tCons ta (tCons tb tNil)) ρ [d, e] := ea_cons h (ea_one h2)
theorem ev_tup (h : EvA tr ρ ds) (hl : ds.length ≤ 100000) : EvD (tTup tr) ρ (.tuple ds) := fun ps σ H ok Q q =>
  h ps σ H ok _ fun vs H1 e1 hv => ⟨by rw [hv.length]; exact small_ok hl, fun p np => q _ _ (e1.trans (same_upd np))
    (dt_tup (fun m => al_mono e1 ok.al p m np) upd_same (hv.mono (hid_same (same_upd np))))⟩
theorem en_lst (h : EvA tr ρ ds) (hl : ds.length ≤ 100000) : EvN (tLst tr) ρ ds := fun ps σ H ok Q q =>
  h ps σ H ok _ fun vs H1 e1 hv => ⟨by rw [hv.length]; exact small_ok hl, fun p np => q p vs _ (e1.free np) (e1.trans (same_upd np)) upd_same (dta_under np hv)⟩
theorem et_test (h : EvD te ρ (.bool b)) : EvT (tTest te) ρ b := fun ps σ H ok Q q => h ps σ H ok _ fun v H1 e1 hv => ⟨b, of_bl hv, q H1 e1⟩
theorem et_B (h : EvD te ρ (.bool b)) : EvT (tB te) ρ b := fun ps σ H ok Q q => h ps σ H ok _ fun v H1 e1 hv => ⟨b, of_bl hv, q H1 e1⟩
theorem et_yes : EvT tYes ρ true := fun ps σ H ok Q q => q H (Same.refl H)
theorem et_and {b' : Bool} (h1 : EvT t ρ b) (h2 : b = true → EvT u ρ b') : EvT (tAnd t u) ρ (b && b') := fun ps σ H ok Q q => h1 ps σ H ok _ fun H1 e1 => by
  cases b with
  | true => exact iteT (h2 rfl ps σ H1 (ok.mono e1) Q fun H2 e2 => q H2 (e1.trans e2))
  | false => exact iteF (q H1 e1)
theorem et_or {b' : Bool} (h1 : EvT t ρ b) (h2 : b = false → EvT u ρ b') : EvT (tOr t u) ρ (b || b') := fun ps σ H ok Q q => h1 ps σ H ok _ fun H1 e1 => by
  cases b with
  | true => exact iteT (q H1 e1)
  | false => exact iteF (h2 rfl ps σ H1 (ok.mono e1) Q fun H2 e2 => q H2 (e1.trans e2))
theorem et_not (h : EvT t ρ b) : EvT (tNot t) ρ (!b) := fun ps σ H ok Q q => h ps σ H ok _ fun H1 e1 => q H1 e1
theorem ev_and {b' : Bool} (h1 : EvD ta ρ (.bool b)) (h2 : b = true → EvD tb ρ (.bool b')) : EvD (tAndV ta tb) ρ (.bool (b && b')) := fun ps σ H ok Q q => h1 ps σ H ok _ fun v H1 e1 hv => by
  refine ⟨b, of_bl hv, ?_⟩
  cases b with
  | true => exact iteT (h2 rfl ps σ H1 (ok.mono e1) Q fun w H2 e2 hw => q w H2 (e1.trans e2) hw)
  | false => exact iteF (q _ H1 e1 dt_bl)
theorem ev_or {b' : Bool} (h1 : EvD ta ρ (.bool b)) (h2 : b = false → EvD tb ρ (.bool b')) : EvD (tOrV ta tb) ρ (.bool (b || b')) := fun ps σ H ok Q q => h1 ps σ H ok _ fun v H1 e1 hv => by
  refine ⟨b, of_bl hv, ?_⟩
  cases b with
  | true => exact iteT (q _ H1 e1 dt_bl)
  | false => exact iteF (h2 rfl ps σ H1 (ok.mono e1) Q fun w H2 e2 hw => q w H2 (e1.trans e2) hw)
theorem ev_not (h : EvD ta ρ (.bool b)) : EvD (tNotV ta) ρ (.bool (!b)) := fun ps σ H ok Q q => h ps σ H ok _ fun v H1 e1 hv => ⟨b, of_bl hv, q _ H1 e1 dt_bl⟩
theorem ev_if (h : EvT t ρ b) (h1 : b = true → EvD ta ρ d) (h2 : b = false → EvD tb ρ d) : EvD (tIf t ta tb) ρ d := fun ps σ H ok Q q => h ps σ H ok _ fun H1 e1 => by
  cases b with
  | true => exact iteT (h1 rfl ps σ H1 (ok.mono e1) Q fun w H2 e2 hw => q w H2 (e1.trans e2) hw)
  | false => exact iteF (h2 rfl ps σ H1 (ok.mono e1) Q fun w H2 e2 hw => q w H2 (e1.trans e2) hw)
theorem ev_ifT (h : EvT t ρ true) (h1 : EvD ta ρ d) : EvD (tIf t ta tb) ρ d := ev_if h (fun _ => h1) fun z => nomatch z
theorem ev_ifF (h : EvT t ρ false) (h1 : EvD tb ρ d) : EvD (tIf t ta tb) ρ d := ev_if h (fun z => nomatch z) fun _ => h1
theorem ev_chain {r' : R2} {b' : Bool} {f : PyData} {tc : TE} (ha : EvD ta ρ d) (hb : EvD tb ρ e) (hc : EvD tc ρ f) (h1 : RvD r d e (.bool b)) (h2 : RvD r' e f (.bool b')) : EvD (tChain r r' ta tb tc) ρ (.bool (b && b')) := fun ps σ H ok Q q =>
  ha ps σ H ok _ fun x H1 e1 hx => hb ps σ H1 (ok.mono e1) _ fun y H2 e2 hy => h1 ps x y H2 (al_mono (e1.trans e2) ok.al) (hx.mono (hid_same e2)) hy _ fun v H3 e3 hv => by
    refine ⟨b, of_bl hv, ?_⟩
    cases b with
    | false => exact iteF (q _ _ ((e1.trans e2).trans e3) dt_bl)
    | true => exact iteT (hc ps σ H3 (ok.mono ((e1.trans e2).trans e3)) _ fun w H4 e4 hw => h2 ps y w H4 (al_mono (((e1.trans e2).trans e3).trans e4) ok.al) ((hy.mono (hid_same e3)).mono (hid_same e4)) hw Q
        fun z H5 e5 hz => q z H5 ((((e1.trans e2).trans e3).trans e4).trans e5) hz)
theorem et_chain {r' : R2} {b' : Bool} {f : PyData} {tc : TE} (ha : EvD ta ρ d) (hb : EvD tb ρ e) (hc : EvD tc ρ f) (h1 : RvD r d e (.bool b)) (h2 : RvD r' e f (.bool b')) : EvT (tTest (tChain r r' ta tb tc)) ρ (b && b') := et_test (ev_chain ha hb hc h1 h2)
/-! ### blocks -/
variable {ts tw tz : TS}
theorem sv_ret (h : EvD te ρ d) : SvO (tRet te) ρ (.ret d) := fun ps σ H D ok q => h ps σ H ok _ q
theorem sv_next : SvO tNext ρ (.next ρ) := fun ps σ H D ok q => q σ H (Same.refl H) ok
theorem sv_seq {o : Out} (h1 : SvO ts ρ (.next ρ')) (h2 : SvO tw ρ' o) : SvO (tSeq ts tw) ρ o := by
  cases o with
  | ret d => exact fun ps σ H D ok q => h1 ps σ H _ ok fun σ2 H2 e2 ok2 => h2 ps σ2 H2 D ok2 fun v H3 e3 hv => q v H3 (e2.trans e3) hv
  | next ρ2 => exact fun ps σ H D ok q => h1 ps σ H _ ok fun σ2 H2 e2 ok2 => h2 ps σ2 H2 D ok2 fun σ3 H3 e3 ok3 => q σ3 H3 (e2.trans e3) ok3
theorem sv_stop (h1 : SvO ts ρ (.ret d)) : SvO (tSeq ts tw) ρ (.ret d) := fun ps σ H D ok q => h1 ps σ H _ ok q
theorem sv_cases {o : Out} (h : EvT t ρ b) (h1 : b = true → SvO ts ρ o) (h2 : b = false → SvO tw ρ o) : SvO (fun D σ H => t σ H fun k H1 => if k = true then ts D σ H1 else tw D σ H1) ρ o := by
  cases o with
  | ret d =>
    intro ps σ H D ok q
    refine h ps σ H ok _ fun H1 e1 => ?_
    cases b
    · exact iteF (h2 rfl ps σ H1 D (ok.mono e1) fun v H2 e2 hv => q v H2 (e1.trans e2) hv)
    · exact iteT (h1 rfl ps σ H1 D (ok.mono e1) fun v H2 e2 hv => q v H2 (e1.trans e2) hv)
  | next ρ2 =>
    intro ps σ H D ok q
    refine h ps σ H ok _ fun H1 e1 => ?_
    cases b
    · exact iteF (h2 rfl ps σ H1 D (ok.mono e1) fun v H2 e2 hv => q v H2 (e1.trans e2) hv)
    · exact iteT (h1 rfl ps σ H1 D (ok.mono e1) fun v H2 e2 hv => q v H2 (e1.trans e2) hv)
theorem sv_if {o : Out} (h : EvT t ρ b) (h1 : b = true → SvO ts ρ o) (h2 : b = false → SvO tw ρ o) : SvO (tIfS t ts tw) ρ o := sv_cases h h1 h2
/-- an if whose body returns, then the rest -/
theorem sv_when {o : Out} (h : EvT t ρ b) (h1 : b = true → SvO (tSeq ts tw) ρ o) (h2 : b = false → SvO tw ρ o) : SvO (tSeq (tIfS t ts tNext) tw) ρ o := sv_cases (ts := tSeq ts tw) (tw := tw) h h1 h2
theorem sv_whenR (h : EvT t ρ b) (h1 : b = true → SvO ts ρ (.ret d)) (h2 : b = false → SvO tw ρ (.ret d)) : SvO (tSeq (tIfS t ts tNext) tw) ρ (.ret d) := sv_when h (fun q => sv_stop (h1 q)) h2
theorem sv_whenT (h : EvT t ρ true) (h1 : SvO ts ρ (.ret d)) : SvO (tSeq (tIfS t ts tNext) tw) ρ (.ret d) := sv_when h (fun _ => sv_stop h1) fun z => nomatch z
theorem sv_whenF {o : Out} (h : EvT t ρ false) (h1 : SvO tw ρ o) : SvO (tSeq (tIfS t ts tNext) tw) ρ o := sv_when h (fun z => nomatch z) fun _ => h1
theorem sv_set {i : Nat} (h : EvD te ρ d) : SvO (tAsg te (gName i)) ρ (.next (ρ.set i (some d))) := fun ps σ H D ok q => h ps σ H ok _ fun v H1 e1 hv => q _ H1 e1 ((ok.mono e1).set i hv)
theorem sv_asg {i : Nat} {o : Out} (h : EvD te ρ d) (h2 : SvO tw (ρ.set i (some d)) o) : SvO (tSeq (tAsg te (gName i)) tw) ρ o := sv_seq (sv_set h) h2
theorem sv_par {i j : Nat} (h : EvA tr ρ [d, e]) : SvO (tPar i j tr) ρ (.next ((ρ.set i (some d)).set j (some e))) := fun ps σ H D ok q => h ps σ H ok _ fun vs H1 e1 hv => by
  obtain ⟨v, w, e2, h1, h2⟩ := two_of hv
  exact ⟨v, w, e2, q _ H1 e1 (((ok.mono e1).set i h1).set j h2)⟩
theorem SvO.is {d' : PyData} (h : SvO ts ρ (.ret d)) (q : d = d') : SvO ts ρ (.ret d') := q ▸ h
end
end Pm
/-! Operators, built-ins, comprehensions, loops, calls: what their readings give. -/
namespace Pm
open PySem PySem.Spec PyProof.Rows L2
section
variable {K : PySem.W.Frag} {ρ ρ' : Rho} {ta tb te tx : TE} {t u : TT} {tr : TA} {r : R2} {c d e : PyData} {ds es : List PyData} {b : Bool}
theorem rv_I {g : Int → Int → Int} {i j : Int} : RvD (rI0 fun i j => .int (g i j)) (.int i) (.int j) (.int (g i j)) := fun ps x y H al hx hy Q q => ⟨i, j, of_int hx, of_int hy, q _ H (Same.refl H) dt_int⟩
theorem rv_B {g : Int → Int → Bool} {i j : Int} : RvD (rI0 fun i j => .bl (g i j)) (.int i) (.int j) (.bool (g i j)) := fun ps x y H al hx hy Q q => ⟨i, j, of_int hx, of_int hy, q _ H (Same.refl H) dt_bl⟩
theorem rv_IC {C : Int → Int → Prop} {g : Int → Int → Int} {i j : Int} (hc : C i j) : RvD (rI C fun i j => .int (g i j)) (.int i) (.int j) (.int (g i j)) := fun ps x y H al hx hy Q q => ⟨i, j, of_int hx, of_int hy, hc, q _ H (Same.refl H) dt_int⟩
theorem rv_eqS {i j : Str} : RvD rEq (.str i) (.str j) (.bool (decide (i = j))) := fun ps x y H al hx hy Q q => by
  rw [of_str hx, of_str hy]
  have e : decide (V.str i = V.str j) = decide (i = j) := by by_cases z : i = j <;> simp [z]
  exact ⟨rfl, e ▸ q _ H (Same.refl H) dt_bl⟩
theorem rv_neS {i j : Str} : RvD rNe (.str i) (.str j) (.bool (!decide (i = j))) := fun ps x y H al hx hy Q q => by
  rw [of_str hx, of_str hy]
  have e : decide (V.str i = V.str j) = decide (i = j) := by by_cases z : i = j <;> simp [z]
  exact ⟨rfl, e ▸ q _ H (Same.refl H) dt_bl⟩
theorem rv_eqI {i j : Int} : RvD rEq (.int i) (.int j) (.bool (decide (i = j))) := fun ps x y H al hx hy Q q => by
  rw [of_int hx, of_int hy]
  have e : decide (V.int i = V.int j) = decide (i = j) := by by_cases z : i = j <;> simp [z]
  exact ⟨rfl, e ▸ q _ H (Same.refl H) dt_bl⟩
theorem rv_neI {i j : Int} : RvD rNe (.int i) (.int j) (.bool (!decide (i = j))) := fun ps x y H al hx hy Q q => by
  rw [of_int hx, of_int hy]
  have e : decide (V.int i = V.int j) = decide (i = j) := by by_cases z : i = j <;> simp [z]
  exact ⟨rfl, e ▸ q _ H (Same.refl H) dt_bl⟩
theorem rv_eqD (sd : SeqAt.shaped d = true) (se : SeqAt.shaped e = true) : RvD (rEqD K) d e (.bool (PyData.eqv d e)) := fun ps x y H al hx hy Q q =>
  ⟨d, e, (hx.mono (fun _ _ h => (of_hid h).1)).dp, (hy.mono (fun _ _ h => (of_hid h).1)).dp, sd, se, q _ H (Same.refl H) dt_bl⟩
theorem rv_neD (sd : SeqAt.shaped d = true) (se : SeqAt.shaped e = true) : RvD (rNeD K) d e (.bool (!PyData.eqv d e)) := fun ps x y H al hx hy Q q =>
  ⟨d, e, (hx.mono (fun _ _ h => (of_hid h).1)).dp, (hy.mono (fun _ _ h => (of_hid h).1)).dp, sd, se, q _ H (Same.refl H) dt_bl⟩
theorem rv_ltS {i j : Str} : RvD (fun x y H Q => ∃ i j, x = .str i ∧ y = .str j ∧ Q (.bl (decide (i.cps.toList < j.cps.toList))) H) (.str i) (.str j) (.bool (decide (i.cps.toList < j.cps.toList))) := fun ps x y H al hx hy Q q => ⟨i, j, of_str hx, of_str hy, q _ H (Same.refl H) dt_bl⟩
theorem rv_geS {i j : Str} : RvD (fun x y H Q => ∃ i j, x = .str i ∧ y = .str j ∧ Q (.bl (!decide (i.cps.toList < j.cps.toList))) H) (.str i) (.str j) (.bool (!decide (i.cps.toList < j.cps.toList))) := fun ps x y H al hx hy Q q => ⟨i, j, of_str hx, of_str hy, q _ H (Same.refl H) dt_bl⟩
/-- xs[i], t[i] -/
theorem rv_ixL {i : Nat} (h : ds[i]? = some d) : RvD (rIx K) (.list ds) (.int (i : Int)) d := fun ps x y H al hx hy Q q => by
  obtain ⟨a, xs, e1, n, h1, h2⟩ := of_lst hx
  obtain ⟨v, h3, h4⟩ := h2.get h
  exact .inl ⟨a, xs, i, v, e1, of_int hy, SqL.of h1, atI_nat h3, q v H (Same.refl H) h4⟩
theorem rv_ixT {i : Nat} (h : ds[i]? = some d) : RvD (rIx K) (.tuple ds) (.int (i : Int)) d := fun ps x y H al hx hy Q q => by
  obtain ⟨a, xs, e1, n, h1, h2⟩ := of_tup hx
  obtain ⟨v, h3, h4⟩ := h2.get h
  exact .inr (.inl ⟨a, xs, i, v, e1, of_int hy, SqT.of h1, atI_nat h3, q v H (Same.refl H) h4⟩)
theorem rv_ixL0 (h : ds[0]? = some d) : RvD (rIx K) (.list ds) (.int 0) d := rv_ixL (i := 0) h
theorem rv_ixL1 (h : ds[1]? = some d) : RvD (rIx K) (.list ds) (.int 1) d := rv_ixL (i := 1) h
theorem rv_ixT0 (h : ds[0]? = some d) : RvD (rIx K) (.tuple ds) (.int 0) d := rv_ixT (i := 0) h
theorem rv_ixT1 (h : ds[1]? = some d) : RvD (rIx K) (.tuple ds) (.int 1) d := rv_ixT (i := 1) h
theorem rv_ixT2 (h : ds[2]? = some d) : RvD (rIx K) (.tuple ds) (.int 2) d := rv_ixT (i := 2) h
/-- x in (..) of texts, of numbers -/
theorem inV_S (s : Str) (ss : List Str) : inV (.str s) (ss.map .str) = ss.contains s := by
  unfold inV
  rw [List.any_map, ← List.any_beq']; rfl
theorem inV_I (s : Int) (ss : List Int) : inV (.int s) (ss.map .int) = ss.contains s := by
  unfold inV
  rw [List.any_map, ← List.any_beq']; rfl
theorem flat_S (ss : List Str) : (ss.map V.str).all flatV = true := by rw [List.all_map]; exact List.all_eq_true.mpr fun _ _ => rfl
theorem flat_I (ss : List Int) : (ss.map V.int).all flatV = true := by rw [List.all_map]; exact List.all_eq_true.mpr fun _ _ => rfl
theorem rv_inTS {s : Str} (ss : List Str) (hd : ds = ss.map .str) : RvD (rIn K false) (.str s) (.tuple ds) (.bool (ss.contains s)) := fun ps x y H al hx hy Q q => by
  obtain ⟨a, xs, e1, n, h1, h2⟩ := of_tup hy
  subst hd
  rw [DtA.strs_inv h2] at h1
  refine ⟨a, _, e1, .inr (SqT.of h1), by rw [of_str hx]; rfl, flat_S ss, ?_⟩
  rw [of_str hx, if_neg Bool.false_ne_true, inV_S]
  exact q _ H (Same.refl H) dt_bl
theorem rv_inLS {s : Str} (ss : List Str) (hd : ds = ss.map .str) : RvD (rIn K false) (.str s) (.list ds) (.bool (ss.contains s)) := fun ps x y H al hx hy Q q => by
  obtain ⟨a, xs, e1, n, h1, h2⟩ := of_lst hy
  subst hd
  rw [DtA.strs_inv h2] at h1
  refine ⟨a, _, e1, .inl (SqL.of h1), by rw [of_str hx]; rfl, flat_S ss, ?_⟩
  rw [of_str hx, if_neg Bool.false_ne_true, inV_S]
  exact q _ H (Same.refl H) dt_bl
theorem rv_ninTS {s : Str} (ss : List Str) (hd : ds = ss.map .str) : RvD (rIn K true) (.str s) (.tuple ds) (.bool (!ss.contains s)) := fun ps x y H al hx hy Q q => by
  obtain ⟨a, xs, e1, n, h1, h2⟩ := of_tup hy
  subst hd
  rw [DtA.strs_inv h2] at h1
  refine ⟨a, _, e1, .inr (SqT.of h1), by rw [of_str hx]; rfl, flat_S ss, ?_⟩
  rw [of_str hx, if_pos rfl, inV_S]
  exact q _ H (Same.refl H) dt_bl
theorem rv_ninLS {s : Str} (ss : List Str) (hd : ds = ss.map .str) : RvD (rIn K true) (.str s) (.list ds) (.bool (!ss.contains s)) := fun ps x y H al hx hy Q q => by
  obtain ⟨a, xs, e1, n, h1, h2⟩ := of_lst hy
  subst hd
  rw [DtA.strs_inv h2] at h1
  refine ⟨a, _, e1, .inl (SqL.of h1), by rw [of_str hx]; rfl, flat_S ss, ?_⟩
  rw [of_str hx, if_pos rfl, inV_S]
  exact q _ H (Same.refl H) dt_bl
/-- a list or a tuple of these -/
inductive IsSeq : PyData → List PyData → Prop where
  | l (ds : List PyData) : IsSeq (.list ds) ds
  | t (ds : List PyData) : IsSeq (.tuple ds) ds
theorem IsSeq.at {ps : List Addr} {H : Hp} {v : V} (h : IsSeq d ds) (hd : Dt (hid ps H) d v) : ∃ a xs, v = .ref a ∧ a ∉ ps ∧ (H a = some (.lst xs) ∨ H a = some (.tup xs)) ∧ DtA (hid ps H) ds xs := by
  cases h with
  | l => obtain ⟨a, xs, e, n, h1, h2⟩ := of_lst hd; exact ⟨a, xs, e, n, .inl h1, h2⟩
  | t => obtain ⟨a, xs, e, n, h1, h2⟩ := of_tup hd; exact ⟨a, xs, e, n, .inr h1, h2⟩
theorem rv_inI {i : Int} (ns : List Int) (hs : IsSeq d (ns.map .int)) : RvD (rIn K false) (.int i) d (.bool (ns.contains i)) := fun ps x y H al hx hy Q q => by
  obtain ⟨a, xs, e1, n, h1, h2⟩ := hs.at hy
  rw [DtA.ints_inv h2] at h1
  refine ⟨a, _, e1, h1.imp SqL.of SqT.of, by rw [of_int hx]; rfl, flat_I ns, ?_⟩
  rw [of_int hx, if_neg Bool.false_ne_true, inV_I]
  exact q _ H (Same.refl H) dt_bl
theorem rv_ninI {i : Int} (ns : List Int) (hs : IsSeq d (ns.map .int)) : RvD (rIn K true) (.int i) d (.bool (!ns.contains i)) := fun ps x y H al hx hy Q q => by
  obtain ⟨a, xs, e1, n, h1, h2⟩ := hs.at hy
  rw [DtA.ints_inv h2] at h1
  refine ⟨a, _, e1, h1.imp SqL.of SqT.of, by rw [of_int hx]; rfl, flat_I ns, ?_⟩
  rw [of_int hx, if_pos rfl, inV_I]
  exact q _ H (Same.refl H) dt_bl
/-- one sign in a text -/
theorem rv_sign {k : Nat} {z : Str} : RvD (fun x y H Q => ∃ (c : Nat) (z : Str), x = .str ⟨#[c]⟩ ∧ y = .str z ∧ Q (.bl (decide (c ∈ z.cps.toList))) H) (.str ⟨#[k]⟩) (.str z) (.bool (decide (k ∈ z.cps.toList))) := fun ps x y H al hx hy Q q => ⟨k, z, of_str hx, of_str hy, q _ H (Same.refl H) dt_bl⟩
theorem rv_nsign {k : Nat} {z : Str} : RvD (fun x y H Q => ∃ (c : Nat) (z : Str), x = .str ⟨#[c]⟩ ∧ y = .str z ∧ Q (.bl (!decide (c ∈ z.cps.toList))) H) (.str ⟨#[k]⟩) (.str z) (.bool (!decide (k ∈ z.cps.toList))) := fun ps x y H al hx hy Q q => ⟨k, z, of_str hx, of_str hy, q _ H (Same.refl H) dt_bl⟩
/-! ### len, all, any, list, tuple -/
abbrev rLenA (K : PySem.W.Frag) : List V → Hp → VK → Prop := fun xs H Q => ∃ x n, xs = [x] ∧ LenV K x H n ∧ Q (.int n) H
theorem rc_len (hs : IsSeq d ds) : RcD (rLenA K) [d] (.int ds.length) := fun ps xs H al hx Q q => by
  obtain ⟨v, e1, h1⟩ := one_of hx
  obtain ⟨a, ys, e2, n, h2, h3⟩ := hs.at h1
  subst e2
  refine ⟨.ref a, ys.length, e1, ?_, by rw [h3.length]; exact q _ H (Same.refl H) dt_int⟩
  rcases h2 with h2 | h2
  · exact .inl ⟨ys, SqL.of h2, rfl⟩
  · exact .inr ⟨ys, SqT.of h2, rfl⟩
theorem rc_lenL : RcD (rLenA K) [.list ds] (.int ds.length) := rc_len (.l ds)
theorem rc_lenT : RcD (rLenA K) [.tuple ds] (.int ds.length) := rc_len (.t ds)
theorem rc_lenS {z : Str} (hz : z.length ≤ 100000) : RcD (rLenA K) [.str z] (.int z.length) := fun ps xs H al hx Q q => by
  obtain ⟨v, e1, h1⟩ := one_of hx
  rw [of_str h1] at e1
  exact ⟨.str z, z.length, e1, ⟨small_ok hz, rfl⟩, q _ H (Same.refl H) dt_int⟩
theorem rc_all (bs : List Bool) (hd : ds = bs.map .bool) : RcD (rAll K) [.list ds] (.bool (bs.all id)) := fun ps xs H al hx Q q => by
  obtain ⟨v, e1, h1⟩ := one_of hx
  obtain ⟨a, ys, e2, n, h2, h3⟩ := of_lst h1
  subst e2 hd
  rw [DtA.bls_inv h3] at h2
  exact ⟨a, bs, e1, SqL.of h2, q _ H (Same.refl H) dt_bl⟩
theorem rc_any (bs : List Bool) (hd : ds = bs.map .bool) : RcD (rAny K) [.list ds] (.bool (bs.any id)) := fun ps xs H al hx Q q => by
  obtain ⟨v, e1, h1⟩ := one_of hx
  obtain ⟨a, ys, e2, n, h2, h3⟩ := of_lst h1
  subst e2 hd
  rw [DtA.bls_inv h3] at h2
  exact ⟨a, bs, e1, SqL.of h2, q _ H (Same.refl H) dt_bl⟩
abbrev rListO (K : PySem.W.Frag) : List V → Hp → VK → Prop := fun xs H Q => ∃ p ys, xs = [.ref p] ∧ (SqL K H p ys ∨ SqT K H p ys) ∧ ∀ l, H l = none → Q (.ref l) (upd H l (.lst ys))
abbrev rTupO (K : PySem.W.Frag) : List V → Hp → VK → Prop := fun xs H Q => ∃ p ys, xs = [.ref p] ∧ ((SqL K H p ys ∧ ∀ l, H l = none → Q (.ref l) (upd H l (.tup ys))) ∨ (SqT K H p ys ∧ Q (.ref p) H))
theorem en_list (h : EvD te ρ d) (hs : IsSeq d ds) : EvN (tCB (rListO K) (tCons te tNil)) ρ ds := fun ps σ H ok Q q => h ps σ H ok _ fun v H1 e1 hv => by
  obtain ⟨a, ys, e2, n, h2, h3⟩ := hs.at hv
  subst e2
  exact ⟨a, ys, rfl, h2.imp SqL.of SqT.of, fun l nl => q l ys _ (e1.free nl) (e1.trans (same_upd nl)) upd_same (dta_under nl h3)⟩
theorem ev_tupOf (h : EvD te ρ d) (hs : IsSeq d ds) : EvD (tCB (rTupO K) (tCons te tNil)) ρ (.tuple ds) := fun ps σ H ok Q q => h ps σ H ok _ fun v H1 e1 hv => by
  cases hs with
  | l =>
    obtain ⟨a, ys, e2, n, h2, h3⟩ := of_lst hv
    subst e2
    exact ⟨a, ys, rfl, .inl ⟨SqL.of h2, fun l nl => q _ _ (e1.trans (same_upd nl)) (dt_tup (fun m => al_mono e1 ok.al l m nl) upd_same (h3.mono (hid_same (same_upd nl))))⟩⟩
  | t =>
    obtain ⟨a, ys, e2, n, h2, h3⟩ := of_tup hv
    subst e2
    exact ⟨a, ys, rfl, .inr ⟨SqT.of h2, q _ _ e1 hv⟩⟩
/-! ### t + u, xs + ys, slices -/
theorem rv_catT (hl : ds.length + es.length ≤ 100000) : RvD (rCatA K) (.tuple ds) (.tuple es) (.tuple (ds ++ es)) := fun ps x y H al hx hy Q q => by
  obtain ⟨a, xs, e1, n1, h1, h2⟩ := of_tup hx
  obtain ⟨b, ys, e2, n2, h3, h4⟩ := of_tup hy
  subst e1 e2
  refine ⟨a, b, xs, ys, rfl, rfl, SqT.of h1, SqT.of h3, by rw [h2.length, h4.length]; exact small_ok hl, fun z => ?_, fun _ z => ?_, fun _ _ p np => ?_⟩
  · have : ds = [] := by have := h2.length; rw [z] at this; exact List.eq_nil_of_length_eq_zero this.symm
    subst this
    exact q _ H (Same.refl H) hy
  · have : es = [] := by have := h4.length; rw [z] at this; exact List.eq_nil_of_length_eq_zero this.symm
    subst this
    rw [List.append_nil] at q
    exact q _ H (Same.refl H) hx
  · exact q _ _ (same_upd np) (dt_tup (fun m => al p m np) upd_same ((h2.append h4).mono (hid_same (same_upd np))))
theorem en_cat (ha : EvD ta ρ (.list ds)) (hb : EvD tb ρ (.list es)) (hl : ds.length + es.length ≤ 100000) : EvN (tOp rCat ta tb) ρ (ds ++ es) := fun ps σ H ok Q q =>
  ha ps σ H ok _ fun x H1 e1 hx => hb ps σ H1 (ok.mono e1) _ fun y H2 e2 hy => by
    obtain ⟨a, xs, q1, n1, h1, h2⟩ := of_lst (hx.mono (hid_same e2))
    obtain ⟨b, ys, q2, n2, h3, h4⟩ := of_lst hy
    subst q1 q2
    exact ⟨a, b, xs, ys, rfl, rfl, h1, h3, by rw [h2.length, h4.length]; exact small_ok hl, fun p np => q p _ _ ((e1.trans e2).free np) ((e1.trans e2).trans (same_upd np)) upd_same (dta_under np (h2.append h4))⟩
theorem cut_from (xs : List V) (k : Nat) : cutV xs (some (k : Int)) none = xs.drop k := by
  unfold cutV
  rw [HT.sIx_nat, HT.sIx_none]
  by_cases h : k ≤ xs.length
  · rw [Nat.min_eq_left h, List.take_of_length_le (by rw [List.length_drop]; omega)]
  · rw [Nat.min_eq_right (by omega), List.drop_of_length_le (Nat.le_refl _), List.drop_of_length_le (by omega), List.take_nil]
theorem cut_to (xs : List V) (k : Nat) : cutV xs none (some (k : Int)) = xs.take k := by
  unfold cutV
  rw [HT.sIx_nat, HT.sIx_none, List.drop_zero, Nat.sub_zero]
  by_cases h : k ≤ xs.length
  · rw [Nat.min_eq_left h]
  · rw [Nat.min_eq_right (by omega), List.take_length, List.take_of_length_le (by omega)]
/-- x[1:] of a list or a tuple -/
abbrev rSlE (K : PySem.W.Frag) : V → Option Int → Option Int → Hp → VK → Prop := fun x lo hi H Q => rSlL K x lo hi H Q ∨ rSlA K x lo hi H Q
theorem sl_either {X : Cx} : SlR X (rSlE X.K) := sl_list.or sl_tupA
/-- x without its first k, a list or a tuple as x is -/
def like : PyData → List PyData → PyData
  | .tuple _, es => .tuple es
  | _, es => .list es
theorem like_seq (hs : IsSeq d ds) (es : List PyData) : IsSeq (like d es) es := by cases hs <;> constructor
theorem ev_from {k : Nat} (h : EvD te ρ d) (hs : IsSeq d ds) : EvD (tSl (rSlE K) te (tPart (tC (.int (k : Int)))) tNoPart) ρ (like d (ds.drop k)) := fun ps σ H ok Q q => h ps σ H ok _ fun v H1 e1 hv => by
  refine ⟨k, rfl, ?_⟩
  cases hs with
  | l =>
    obtain ⟨a, ys, e2, n, h2, h3⟩ := of_lst hv
    subst e2
    refine .inl ⟨a, ys, rfl, SqL.of h2, fun p np => ?_⟩
    rw [cut_from]
    exact q _ _ (e1.trans (same_upd np)) (dt_lst (fun m => al_mono e1 ok.al p m np) upd_same ((h3.drop k).mono (hid_same (same_upd np))))
  | t =>
    obtain ⟨a, ys, e2, n, h2, h3⟩ := of_tup hv
    subst e2
    refine .inr ⟨a, ys, rfl, SqT.of h2, fun z => ?_, fun _ p np => ?_⟩
    · rw [HT.sIx_nat] at z
      have hd : ds.drop k = ds := by
        by_cases hk : k = 0
        · rw [hk]; rfl
        · have : ys.length = 0 := by omega
          have : ds = [] := List.eq_nil_of_length_eq_zero (by rw [← h3.length]; exact this)
          rw [this]; simp
      show Q (.ref a) H1
      have q' := q (.ref a) H1 e1
      unfold like at q'
      rw [hd] at q'
      exact q' hv
    · rw [cut_from]
      exact q _ _ (e1.trans (same_upd np)) (dt_tup (fun m => al_mono e1 ok.al p m np) upd_same ((h3.drop k).mono (hid_same (same_upd np))))
theorem ev_from1 (h : EvD te ρ d) (hs : IsSeq d ds) : EvD (tSl (rSlE K) te (tPart (tC (.int 1))) tNoPart) ρ (like d (ds.drop 1)) := ev_from (k := 1) h hs
/-! ### isinstance -/
def tyName : PyData → String
  | .none => "NoneType"
  | .bool _ => "bool"
  | .int _ => "int"
  | .str _ => "str"
  | .list _ => "list"
  | .tuple _ => "tuple"
  | .dict _ => "dict"
theorem ty_of {ps : List Addr} {H : Hp} : ∀ {d : PyData} {v : V}, Dt (hid ps H) d v → TyX K H v (.type (tyName d))
  | .none, _, h => by simp only [Dt] at h; subst h; exact .base .non
  | .bool _, _, h => by rw [of_bl h]; exact .base (.bl _)
  | .int _, _, h => by rw [of_int h]; exact .base (.int _)
  | .str _, _, h => by rw [of_str h]; exact .base (.str _)
  | .list _, _, h => by obtain ⟨a, xs, e, n, h1, h2⟩ := of_lst h; subst e; exact .base (.lst h1)
  | .tuple _, _, h => by obtain ⟨a, xs, e, n, h1, h2⟩ := of_tup h; subst e; exact .base (.tup h1)
  | .dict _, _, h => by simp only [Dt] at h
theorem ev_isi {n : String} (h : EvD te ρ d) (k : kitB (tyName d) n = some b) : EvD (tCB (rIsi K) (tCons te (tCons (tC (.ty n)) tNil))) ρ (.bool b) := fun ps σ H ok Q q => h ps σ H ok _ fun v H1 e1 hv =>
  ⟨v, .ty n, _, _, b, rfl, .ty n, ty_of hv, kit_ty k, q _ _ e1 dt_bl⟩
theorem ev_isi2 {n m : String} {b b' : Bool} (h : EvD te ρ d) (k : kitB (tyName d) n = some b) (k' : kitB (tyName d) m = some b') :
    EvD (tCB (rIsiT K) (tCons te (tCons (tTup (tCons (tC (.ty n)) (tCons (tC (.ty m)) tNil))) tNil))) ρ (.bool (b || b')) := fun ps σ H ok Q q => h ps σ H ok _ fun v H1 e1 hv => by
  refine ⟨by show 2 ≤ sizeLine; decide, fun p np => ?_⟩
  refine ⟨v, p, [.ty n, .ty m], _, [.type n, .type m], b || b', rfl, upd_same, .cons (.ty n) (.cons (.ty m) .nil), ty_of (hv.mono (hid_same (same_upd np))), ?_, q _ _ (e1.trans (same_upd np)) dt_bl⟩
  refine kitAny_cons (kit_ty k) (fun e => ?_) fun e => by rw [e]; rfl
  subst e
  refine kitAny_cons (kit_ty k') (fun e => ?_) fun e => by rw [e]; rfl
  subst e
  exact kitAny_nil
def noDict : PyData → Bool
  | .dict _ => false
  | _ => true
def isInt : PyData → Bool
  | .int _ => true
  | .bool _ => true
  | _ => false
def isBl : PyData → Bool
  | .bool _ => true
  | _ => false
def isStr : PyData → Bool
  | .str _ => true
  | _ => false
def isTup : PyData → Bool
  | .tuple _ => true
  | _ => false
def isLst : PyData → Bool
  | .list _ => true
  | _ => false
theorem kit_int : ∀ {d : PyData}, noDict d = true → kitB (tyName d) "int" = some (isInt d)
  | .none, _ => by decide +kernel
  | .bool _, _ => by show kitB "bool" "int" = some true; decide +kernel
  | .int _, _ => by show kitB "int" "int" = some true; decide +kernel
  | .str _, _ => by show kitB "str" "int" = some false; decide +kernel
  | .list _, _ => by show kitB "list" "int" = some false; decide +kernel
  | .tuple _, _ => by show kitB "tuple" "int" = some false; decide +kernel
  | .dict _, h => by cases h
theorem kit_bool : ∀ {d : PyData}, noDict d = true → kitB (tyName d) "bool" = some (isBl d)
  | .none, _ => by decide +kernel
  | .bool _, _ => by show kitB "bool" "bool" = some true; decide +kernel
  | .int _, _ => by show kitB "int" "bool" = some false; decide +kernel
  | .str _, _ => by show kitB "str" "bool" = some false; decide +kernel
  | .list _, _ => by show kitB "list" "bool" = some false; decide +kernel
  | .tuple _, _ => by show kitB "tuple" "bool" = some false; decide +kernel
  | .dict _, h => by cases h
theorem kit_str : ∀ {d : PyData}, noDict d = true → kitB (tyName d) "str" = some (isStr d)
  | .none, _ => by decide +kernel
  | .bool _, _ => by show kitB "bool" "str" = some false; decide +kernel
  | .int _, _ => by show kitB "int" "str" = some false; decide +kernel
  | .str _, _ => by show kitB "str" "str" = some true; decide +kernel
  | .list _, _ => by show kitB "list" "str" = some false; decide +kernel
  | .tuple _, _ => by show kitB "tuple" "str" = some false; decide +kernel
  | .dict _, h => by cases h
theorem kit_tup : ∀ {d : PyData}, noDict d = true → kitB (tyName d) "tuple" = some (isTup d)
  | .none, _ => by decide +kernel
  | .bool _, _ => by show kitB "bool" "tuple" = some false; decide +kernel
  | .int _, _ => by show kitB "int" "tuple" = some false; decide +kernel
  | .str _, _ => by show kitB "str" "tuple" = some false; decide +kernel
  | .list _, _ => by show kitB "list" "tuple" = some false; decide +kernel
  | .tuple _, _ => by show kitB "tuple" "tuple" = some true; decide +kernel
  | .dict _, h => by cases h
theorem kit_lst : ∀ {d : PyData}, noDict d = true → kitB (tyName d) "list" = some (isLst d)
  | .none, _ => by decide +kernel
  | .bool _, _ => by show kitB "bool" "list" = some false; decide +kernel
  | .int _, _ => by show kitB "int" "list" = some false; decide +kernel
  | .str _, _ => by show kitB "str" "list" = some false; decide +kernel
  | .list _, _ => by show kitB "list" "list" = some true; decide +kernel
  | .tuple _, _ => by show kitB "tuple" "list" = some false; decide +kernel
  | .dict _, h => by cases h
end
end Pm
/-! What is walked; comprehensions; for; calls; a def by its body. -/
namespace Pm
open PySem PySem.Spec PyProof.Rows L2
/-! ### what is walked -/
/-- an iterator that gives these, one a turn, and leaves all that stands; qs: what was made behind its making and is hidden, too -/
structure Src (ps : List Addr) (J : It) (ds : List PyData) (H1 : Hp) : Prop where
  stop : ∀ H', Same (hid ps H1) (hid ps H') → J.stop ds.length H'
  go : ∀ i H', i < ds.length → Same (hid ps H1) (hid ps H') → J.go i H'
  yld : ∀ i H' x H'' (qs : List Addr), i < ds.length → Same (hid ps H1) (hid ps H') → (∀ a ∈ qs, H1 a = none) → (∀ a ∈ qs ++ ps, H' a ≠ none) → J.yld i H' x H'' → Same H' H'' ∧ ∃ d, ds[i]? = some d ∧ Dt (hid (qs ++ ps) H'') d x
theorem hid_moreH {ps qs : List Addr} {H H' : Hp} (e : Same (hid ps H) (hid ps H')) (n : ∀ a ∈ qs, H a = none) : Same (hid ps H) (hid (qs ++ ps) H') := fun a o h => by
  obtain ⟨h1, h2⟩ := of_hid h
  refine hid_of (of_hid (e a o h)).1 fun m => ?_
  rcases List.mem_append.mp m with m | m
  · rw [n a m] at h1; cases h1
  · exact h2 m
theorem hid_more {ps qs : List Addr} {H H' : Hp} (e : Same H H') (n : ∀ a ∈ qs, H a = none) : Same (hid ps H) (hid (qs ++ ps) H') := hid_moreH (hid_same e) n
theorem at_h {ps : List Addr} {H H' : Hp} {a : Addr} {o : HO} (e : Same (hid ps H) (hid ps H')) (h : H a = some o) (n : a ∉ ps) : H' a = some o := (of_hid (e a o (hid_of h n))).1
def IsD (wi : TI) (ρ : Rho) (ds : List PyData) : Prop := ∀ ps σ H, Ok ps H σ ρ → ∀ R : It → Hp → Prop, (∀ J H1, Same H H1 → Src ps J ds H1 → R J H1) → wi σ H R
section
variable {K : PySem.W.Frag} {ρ ρ' : Rho} {ta tb te tl : TE} {tr : TA} {d : PyData} {ds es : List PyData}
theorem same_seqT {H H' : Hp} {a : Addr} {xs : List V} (e : Same H H') (h : H a = some (.tup xs)) : SqT K H' a xs := SqT.of (e _ _ h)
theorem src_l {ps : List Addr} {H1 : Hp} {a : Addr} {xs : List V} (n : a ∉ ps) (h : H1 a = some (.lst xs)) (hs : DtA (hid ps H1) ds xs) : Src ps (Itl K a) ds H1 where
  stop := fun H' e => ⟨xs, SqL.of (at_h e h n), by rw [hs.length]; exact Nat.le_refl _⟩
  go := fun i H' hi e => by
    have : i < xs.length := by rw [hs.length]; exact hi
    exact ⟨xs, xs[i], SqL.of (at_h e h n), by simp [this]⟩
  yld := fun i H' x H'' qs hi e nq al y => by
    obtain ⟨rfl, y⟩ := y
    obtain ⟨d, h1, h2⟩ := hs.got (y xs (SqL.of (at_h e h n)))
    exact ⟨Same.refl _, d, h1, h2.mono (hid_moreH e nq)⟩
theorem src_t {ps : List Addr} {H1 : Hp} {a : Addr} {xs : List V} (n : a ∉ ps) (h : H1 a = some (.tup xs)) (hs : DtA (hid ps H1) ds xs) : Src ps (Itt K a) ds H1 where
  stop := fun H' e => ⟨xs, SqT.of (at_h e h n), by rw [hs.length]; exact Nat.le_refl _⟩
  go := fun i H' hi e => by
    have : i < xs.length := by rw [hs.length]; exact hi
    exact ⟨xs, xs[i], SqT.of (at_h e h n), by simp [this]⟩
  yld := fun i H' x H'' qs hi e nq al y => by
    obtain ⟨rfl, y⟩ := y
    obtain ⟨d, h1, h2⟩ := hs.got (y xs (SqT.of (at_h e h n)))
    exact ⟨Same.refl _, d, h1, h2.mono (hid_moreH e nq)⟩
theorem is_list (h : EvD tl ρ (.list ds)) : IsD (iList K tl) ρ ds := fun ps σ H ok R q => h ps σ H ok _ fun v H1 e1 hv => by
  obtain ⟨a, xs, e2, n, h2, h3⟩ := of_lst hv
  exact ⟨a, e2, ⟨xs, SqL.of h2⟩, q _ _ e1 (src_l n h2 h3)⟩
theorem is_tup (h : EvD tl ρ (.tuple ds)) : IsD (iTup K tl) ρ ds := fun ps σ H ok R q => h ps σ H ok _ fun v H1 e1 hv => by
  obtain ⟨a, xs, e2, n, h2, h3⟩ := of_tup hv
  exact ⟨a, e2, ⟨xs, SqT.of h2⟩, q _ _ e1 (src_t n h2 h3)⟩
/-- a name that holds a list or a tuple -/
def iEither (K : PySem.W.Frag) (i : Nat) : TI := fun σ H R => ∃ a, σ[i]? = some (some (.ref a)) ∧ (((∃ xs, SqL K H a xs) ∧ R (Itl K a) H) ∨ ((∃ xs, SqT K H a xs) ∧ R (Itt K a) H))
theorem pi_either {X : Cx} {tg l : Expr} {i : Nat} (h : PE X l (tVar i)) : PI X tg l (iEither X.K i) := by
  refine ⟨fun pins s σ H R I hw => ?_⟩
  obtain ⟨a, h1, h2⟩ := hw
  rcases h2 with ⟨h2, h3⟩ | ⟨h2, h3⟩
  · exact (pi_list h).run pins s σ H R I ⟨.ref a, h1, a, rfl, h2, h3⟩
  · exact (pi_tup h).run pins s σ H R I ⟨.ref a, h1, a, rfl, h2, h3⟩
theorem is_either {i : Nat} (h : ρ[i]? = some (some d)) (hs : IsSeq d ds) : IsD (iEither K i) ρ ds := fun ps σ H ok R q => by
  obtain ⟨v, h1, h2⟩ := ok.val i d h
  obtain ⟨a, xs, e2, n, h3, h4⟩ := hs.at h2
  subst e2
  rcases h3 with h3 | h3
  · exact ⟨a, h1, .inl ⟨⟨xs, SqL.of h3⟩, q _ _ (Same.refl H) (src_l n h3 h4)⟩⟩
  · exact ⟨a, h1, .inr ⟨⟨xs, SqT.of h3⟩, q _ _ (Same.refl H) (src_t n h3 h4)⟩⟩
/-- lo, lo + 1, .. -/
def upI (lo : Int) (n : Nat) : List PyData := (List.range n).map fun (i : Nat) => PyData.int (lo + (i : Int))
theorem upI_get {lo : Int} {n i : Nat} (h : i < n) : (upI lo n)[i]? = some (.int (lo + (i : Int))) := by
  unfold upI; rw [List.getElem?_map, List.getElem?_range h]; rfl
theorem upI_len {lo : Int} {n : Nat} : (upI lo n).length = n := by unfold upI; simp
theorem src_r {ps : List Addr} {H1 : Hp} {lo : Int} {n : Nat} : Src ps (Itr lo n) (upI lo n) H1 where
  stop := fun H' e => by rw [upI_len]; exact Nat.le_refl n
  go := fun i H' hi e => by rw [upI_len] at hi; exact hi
  yld := fun i H' x H'' qs hi e nq al y => by
    obtain ⟨rfl, rfl⟩ := y
    rw [upI_len] at hi
    exact ⟨Same.refl _, _, upI_get hi, dt_int⟩
theorem is_range {n : Nat} (h : EvA tr ρ [.int (n : Int)]) (hn : n ≤ 100000) : IsD (iRng1 tr) ρ (upI 0 n) := fun ps σ H ok R q => h ps σ H ok _ fun vs H1 e1 hv => by
  obtain ⟨v, e2, h1⟩ := one_of hv
  refine ⟨n, by rw [e2, of_int h1], by omega, by omega, ?_⟩
  rw [Int.toNat_natCast]
  exact q _ _ e1 src_r
theorem is_range2 {lo : Nat} {n : Nat} (h : EvA tr ρ [.int (lo : Int), .int (n : Int)]) (hn : n ≤ 100000) (hl : lo ≤ 100000) : IsD (iRng2 tr) ρ (upI lo (n - lo)) := fun ps σ H ok R q => h ps σ H ok _ fun vs H1 e1 hv => by
  obtain ⟨v, w, e2, h1, h2⟩ := two_of hv
  refine ⟨lo, n, by rw [e2, of_int h1, of_int h2], ⟨by omega, by omega, by omega, by omega⟩, ?_⟩
  rw [show ((n : Int) - (lo : Int)).toNat = n - lo by omega]
  exact q _ _ e1 src_r
/-- the signs of a text -/
def signs (z : Str) : List PyData := z.cps.toList.map fun c => .str ⟨#[c]⟩
theorem is_str {z : Str} (h : EvD te ρ (.str z)) : IsD (iStr te) ρ (signs z) := fun ps σ H ok R q => h ps σ H ok _ fun v H1 e1 hv => by
  refine ⟨z, of_str hv, q _ _ e1 ⟨fun H' e => ?_, fun i H' hi e => ?_, fun i H' x H'' qs hi e nq al y => ?_⟩⟩
  · unfold signs; simp; exact Nat.le_refl _
  · unfold signs at hi; simp at hi; exact hi
  · obtain ⟨rfl, c, h1, rfl⟩ := y
    refine ⟨Same.refl _, .str ⟨#[c]⟩, ?_, dt_str⟩
    unfold signs
    rw [List.getElem?_map, Array.getElem?_toList, h1]; rfl
/-- pairs -/
def pairs (ds es : List PyData) : List PyData := List.zipWith (fun x y => .tuple [x, y]) ds es
theorem pairs_get {ds es : List PyData} {i : Nat} {x y : PyData} (h1 : ds[i]? = some x) (h2 : es[i]? = some y) : (pairs ds es)[i]? = some (.tuple [x, y]) := by
  unfold pairs; rw [List.getElem?_zipWith, h1, h2]
theorem is_zip {e : PyData} (h : EvA tr ρ [d, e]) (hd : IsSeq d ds) (he : IsSeq e es) (hk : e = like d es) : IsD (RZ.iZipA K tr) ρ (pairs ds es) := fun ps σ H ok R q => h ps σ H ok _ fun vs H1 e1 hv => by
  obtain ⟨v, w, e2, h1, h2⟩ := two_of hv
  have hlen : (pairs ds es).length = min ds.length es.length := by unfold pairs; rw [List.length_zipWith]
  cases hd with
  | l =>
    have hk : e = .list es := hk
    subst hk
    obtain ⟨a, xs, q1, n1, h3, h4⟩ := of_lst h1
    obtain ⟨b, ys, q2, n2, h5, h6⟩ := of_lst h2
    have l1 := h4.length
    have l2 := h6.length
    refine ⟨a, b, xs, ys, by rw [e2, q1, q2], .inl ⟨SqL.of h3, SqL.of h5, q _ _ e1 ⟨fun H' z => ?_, fun i H' hi z => ?_, fun i H' x H'' qs hi z nq al y => ?_⟩⟩⟩
    · exact ⟨xs, ys, SqL.of (at_h z h3 n1), SqL.of (at_h z h5 n2), by omega⟩
    · have i1 : i < xs.length := by omega
      have i2 : i < ys.length := by omega
      exact ⟨xs, ys, xs[i], ys[i], SqL.of (at_h z h3 n1), SqL.of (at_h z h5 n2), by simp [i1], by simp [i2]⟩
    · obtain ⟨T, x1, y1, rfl, nT, rfl, f1, f2⟩ := y
      obtain ⟨d1, g1, g2⟩ := h4.got (f1 xs (SqL.of (at_h z h3 n1)))
      obtain ⟨d2, g3, g4⟩ := h6.got (f2 ys (SqL.of (at_h z h5 n2)))
      refine ⟨same_upd nT, _, pairs_get g1 g3, dt_tup (fun m => al T m nT) upd_same (DtA.cons (g2.mono (hid_moreH (z.trans (hid_same (same_upd nT))) nq)) (DtA.cons (g4.mono (hid_moreH (z.trans (hid_same (same_upd nT))) nq)) DtA.nil))⟩
  | t =>
    have hk : e = .tuple es := hk
    subst hk
    obtain ⟨a, xs, q1, n1, h3, h4⟩ := of_tup h1
    obtain ⟨b, ys, q2, n2, h5, h6⟩ := of_tup h2
    have l1 := h4.length
    have l2 := h6.length
    refine ⟨a, b, xs, ys, by rw [e2, q1, q2], .inr ⟨SqT.of h3, SqT.of h5, q _ _ e1 ⟨fun H' z => ?_, fun i H' hi z => ?_, fun i H' x H'' qs hi z nq al y => ?_⟩⟩⟩
    · exact ⟨xs, ys, SqT.of (at_h z h3 n1), SqT.of (at_h z h5 n2), by omega⟩
    · have i1 : i < xs.length := by omega
      have i2 : i < ys.length := by omega
      exact ⟨xs, ys, xs[i], ys[i], SqT.of (at_h z h3 n1), SqT.of (at_h z h5 n2), by simp [i1], by simp [i2]⟩
    · obtain ⟨T, x1, y1, rfl, nT, rfl, f1, f2⟩ := y
      obtain ⟨d1, g1, g2⟩ := h4.got (f1 xs (SqT.of (at_h z h3 n1)))
      obtain ⟨d2, g3, g4⟩ := h6.got (f2 ys (SqT.of (at_h z h5 n2)))
      refine ⟨same_upd nT, _, pairs_get g1 g3, dt_tup (fun m => al T m nT) upd_same (DtA.cons (g2.mono (hid_moreH (z.trans (hid_same (same_upd nT))) nq)) (DtA.cons (g4.mono (hid_moreH (z.trans (hid_same (same_upd nT))) nq)) DtA.nil))⟩
end
/-! ### targets -/
theorem wipe_get (σ : L2.St) : ∀ (vs : List Nat) (i : Nat), (L2.wipe σ vs)[i]? = if i ∈ vs then (σ[i]?).map (fun _ => none) else σ[i]?
  | [], i => by simp [L2.wipe]
  | v :: vs, i => by
    unfold L2.wipe
    by_cases h : v = i
    · subst h
      rw [if_pos List.mem_cons_self]
      by_cases hl : v < σ.length
      · rw [List.getElem?_set_self (by rw [wipe_length]; exact hl), List.getElem?_eq_getElem hl]; rfl
      · rw [List.getElem?_eq_none (by rw [List.length_set, wipe_length]; omega), List.getElem?_eq_none (by omega)]; rfl
    · rw [List.getElem?_set_ne h, wipe_get σ vs i]
      by_cases hm : i ∈ vs
      · rw [if_pos hm, if_pos (List.mem_cons_of_mem _ hm)]
      · rw [if_neg hm, if_neg (by simp only [List.mem_cons, not_or]; exact ⟨fun z => h z.symm, hm⟩)]
theorem wipe_set {σ : L2.St} {vs : List Nat} {j : Nat} (h : j ∈ vs) (x : Option V) : L2.wipe (σ.set j x) vs = L2.wipe σ vs := by
  apply List.ext_getElem?
  intro i
  rw [wipe_get, wipe_get]
  by_cases hi : i ∈ vs
  · rw [if_pos hi, if_pos hi]
    by_cases hj : j = i
    · subst hj
      by_cases hl : j < σ.length
      · rw [List.getElem?_set_self hl, List.getElem?_eq_getElem hl]; rfl
      · rw [List.getElem?_eq_none (by rw [List.length_set]; omega), List.getElem?_eq_none (by omega)]
    · rw [List.getElem?_set_ne hj]
  · rw [if_neg hi, if_neg hi, List.getElem?_set_ne (fun z => hi (by rw [← z]; exact h))]
theorem wipe_wipe {σ : L2.St} {vs : List Nat} : L2.wipe (L2.wipe σ vs) vs = L2.wipe σ vs := by
  apply List.ext_getElem?
  intro i
  rw [wipe_get, wipe_get]
  by_cases hi : i ∈ vs
  · rw [if_pos hi]
    cases σ[i]? <;> simp [hi]
  · rw [if_neg hi]
/-- a target takes this datum: the names' data behind; vs: the slots that it may write -/
def GtD (g : TG) (ρ : Rho) (d : PyData) (ρ' : Rho) (vs : List Nat) : Prop := ∀ ps v σ H, Ok ps H σ ρ → Dt (hid ps H) d v → ∀ Q : L2.St → Hp → Prop, (∀ σ2 H2, Same H H2 → Ok ps H2 σ2 ρ' → L2.wipe σ2 vs = L2.wipe σ vs → Q σ2 H2) → g v σ H Q
section
variable {K : PySem.W.Frag} {ρ ρ' : Rho} {g : TG} {tt : TT} {te : TE} {wi : TI} {tb tw : TS} {d e : PyData} {ds : List PyData} {vs : List Nat}
theorem gt_name {j : Nat} (h : j ∈ vs) : GtD (gName j) ρ d (ρ.set j (some d)) vs := fun ps v σ H ok hd Q q => q _ H (Same.refl H) (ok.set j hd) (wipe_set h _)
theorem gt_two {i j : Nat} (hi : i ∈ vs) (hj : j ∈ vs) : GtD (gTup K 2 (gCons (gName i) (gCons (gName j) gNil))) ρ (.tuple [d, e]) ((ρ.set i (some d)).set j (some e)) vs := fun ps v σ H ok hd Q q => by
  obtain ⟨a, xs, e1, n, h1, h2⟩ := of_tup hd
  obtain ⟨x, y, e2, h3, h4⟩ := two_of h2
  subst e2
  exact ⟨a, [x, y], e1, SqT.of h1, rfl, x, [y], rfl, y, [], rfl, rfl, q _ H (Same.refl H) ((ok.set i h3).set j h4) ((wipe_set hj _).trans (wipe_set hi _))⟩
/-! ### comprehensions -/
theorem same_mut {H H' : Hp} {p : Addr} {o : HO} (e : Same H H') (h : H p = none) : Same H (upd H' p o) := fun a u ha => by
  rw [upd_ne (ne_of_none ha h)]; exact e a u ha
theorem hid_upd {ps : List Addr} {H : Hp} {p : Addr} {o : HO} (m : p ∈ ps) : hid ps (upd H p o) = hid ps H := by
  funext a
  unfold hid
  by_cases h : a ∈ ps
  · rw [if_pos h, if_pos h]
  · rw [if_neg h, if_neg h, upd_ne (fun z => h (by rw [z]; exact m))]
theorem Ok.under {ps : List Addr} {H H' : Hp} {σ : L2.St} {ρ : Rho} {D : Addr} (ok : Ok ps H σ ρ) (e : Same H H') (n : H D = none) (a : H' D ≠ none) : Ok (D :: ps) H' σ ρ :=
  ⟨ok.len, fun i d q => by
    obtain ⟨v, h1, h2⟩ := ok.val i d q
    exact ⟨v, h1, h2.mono (hid_more (qs := [D]) e fun b m => by rw [List.mem_singleton.mp m]; exact n)⟩,
  fun b m => by
    rcases List.mem_cons.mp m with z | m
    · rw [z]; exact a
    · exact al_mono e ok.al b m⟩
/-- what they give: the items that pass the test, each by f -/
theorem en_lc {α : Type} (ys : List α) (g0 : α → PyData) (b : α → Bool) (f : α → PyData) (r : α → Rho) (hs : IsD wi ρ (ys.map g0)) (hl : ys.length ≤ 40000) (hg : ∀ x ∈ ys, GtD g (wipeR ρ vs) (g0 x) (r x) vs) (ht : ∀ x ∈ ys, EvT tt (r x) (b x)) (he : ∀ x ∈ ys, b x = true → EvD te (r x) (f x)) :
    EvN (tLc wi g tt te vs) ρ ((ys.filter b).map f) := fun ps σ H ok Q q => hs ps σ H ok _ fun J H1 e1 S D nD => by
  refine ⟨fun i m H' => m = ys.length - i ∧ i ≤ ys.length ∧ Same H1 H' ∧ ∃ xs, H' D = some (.lst xs) ∧ DtA (hid (D :: ps) H') (((ys.take i).filter b).map f) xs, ⟨_, rfl, Nat.zero_le _, same_upd nD, [], upd_same, by simp [DtA]⟩, ?_⟩
  rintro i m H' ⟨rfl, hi, s1, xs, hD, hx⟩
  by_cases hlt : i < ys.length
  · refine .inr ⟨S.go i H' (by rw [List.length_map]; exact hlt) (hid_same s1), fun H2 => i + 1 ≤ ys.length ∧ Same H1 H2 ∧ ∃ xs, H2 D = some (.lst xs) ∧ DtA (hid (D :: ps) H2) (((ys.take (i + 1)).filter b).map f) xs, fun H2 z => ⟨ys.length - (i + 1), by omega, rfl, z⟩, fun x H'' y => ?_⟩
    have e0 : ys[i]? = some ys[i] := List.getElem?_eq_getElem hlt
    have aD : H' D ≠ none := fun z => by rw [hD] at z; cases z
    have alD : ∀ a ∈ [D] ++ ps, H' a ≠ none := fun a m => by
      rcases List.mem_cons.mp m with z | m
      · rw [z]; exact aD
      · exact al_mono (e1.trans s1) ok.al a m
    obtain ⟨s2, d, g1, g2⟩ := S.yld i H' x H'' [D] (by rw [List.length_map]; exact hlt) (hid_same s1) (fun a m => by rw [List.mem_singleton.mp m]; exact nD) alD y
    obtain ⟨z, hz, hm⟩ : ∃ z, ys[i]? = some z ∧ z ∈ ys := ⟨_, e0, List.getElem_mem hlt⟩
    rw [List.getElem?_map, hz] at g1
    cases g1
    have okw : Ok (D :: ps) H'' (L2.wipe σ vs) (wipeR ρ vs) := ((ok.mono e1).under (s1.trans s2) nD (fun z => by rw [s2 _ _ hD] at z; cases z)).wipe vs
    refine hg z hm (D :: ps) x _ H'' okw g2 _ fun σ2 H2 s3 ok2 w2 => ⟨w2.trans wipe_wipe, ?_⟩
    refine ht z hm (D :: ps) σ2 H2 ok2 _ fun H3 s4 => ?_
    have st : ys.take (i + 1) = ys.take i ++ [z] := by rw [List.take_add_one, hz]; rfl
    cases hb : b z with
    | false =>
      refine iteF ⟨hlt, s1.trans (s2.trans (s3.trans s4)), xs, (s2.trans (s3.trans s4)) _ _ hD, ?_⟩
      rw [st, List.filter_append, List.filter_cons, if_neg (by rw [hb]; exact Bool.false_ne_true), List.filter_nil, List.append_nil]
      exact hx.mono (hid_same (s2.trans (s3.trans s4)))
    | true =>
      refine iteT (he z hm hb (D :: ps) σ2 H3 (ok2.mono s4) _ fun v H4 s5 hv => ?_)
      have sA : Same H' H4 := s2.trans (s3.trans (s4.trans s5))
      refine ⟨xs, sA _ _ hD, ?_, hlt, same_mut (s1.trans sA) nD, xs ++ [v], upd_same, ?_⟩
      · rw [hx.length, List.length_map]
        have h1 := List.length_filter_le b (ys.take i)
        rw [List.length_take] at h1
        exact Nat.lt_of_le_of_lt (show _ ≤ 40000 by omega) (by decide)
      · rw [hid_upd List.mem_cons_self, st, List.filter_append, List.filter_cons, if_pos hb, List.filter_nil, List.map_append]
        exact DtA.append (hx.mono (hid_same sA)) (DtA.cons hv DtA.nil)
  · have hi' : i = ys.length := by omega
    subst hi'
    refine .inl ⟨by have := S.stop H' (hid_same s1); rwa [List.length_map] at this, ?_⟩
    rw [List.take_length] at hx
    exact q D xs H' (e1.free nD) (e1.trans s1) hD hx
/-- no test -/
theorem en_lc1 {α : Type} (ys : List α) (g0 : α → PyData) (f : α → PyData) (r : α → Rho) (hs : IsD wi ρ (ys.map g0)) (hl : ys.length ≤ 40000) (hg : ∀ x ∈ ys, GtD g (wipeR ρ vs) (g0 x) (r x) vs) (he : ∀ x ∈ ys, EvD te (r x) (f x)) :
    EvN (tLc wi g tYes te vs) ρ (ys.map f) := by
  have h := en_lc (tt := tYes) ys g0 (fun _ => true) f r hs hl hg (fun _ _ => et_yes) (fun x m _ => he x m)
  rwa [List.filter_eq_self.mpr (fun _ _ => rfl)] at h
theorem IsD.id (h : IsD wi ρ ds) : IsD wi ρ (ds.map fun x => x) := by rw [List.map_id']; exact h
/-! ### for -/
/-- loops that carry nothing from turn to turn: some turn hands back, or none -/
theorem sv_for {α : Type} (ys : List α) (g0 : α → PyData) (ρ0 : Rho) (r : α → Rho) (out : α → Option PyData) (hs : IsD wi ρ (ys.map g0)) (h0 : ρ0.length = ρ.length) (hρ : ∀ (i : Nat) d, ρ0[i]? = some (some d) → ρ[i]? = some (some d)) (hg : ∀ x ∈ ys, GtD g ρ0 (g0 x) (r x) vs)
    (hb : ∀ x ∈ ys, SvO tb (r x) (match out x with | some e => .ret e | none => .next ρ0)) : SvO (tFor wi g tb) ρ (match ys.findSome? out with | some e => .ret e | none => .next ρ0) := by
  have core : ∀ ps σ H (D : Ends), Ok ps H σ ρ → (∀ d, ys.findSome? out = some d → ∀ v H2, Same H H2 → Dt (hid ps H2) d v → D.rt v H2) → (ys.findSome? out = none → ∀ σ2 H2, Same H H2 → Ok ps H2 σ2 ρ0 → D.nx σ2 H2) → tFor wi g tb D σ H := by
    intro ps σ H D ok q1 q2
    refine hs ps σ H ok _ fun J H1 e1 S => ?_
    refine ⟨fun i m σ' H' => m = ys.length - i ∧ i ≤ ys.length ∧ Same H1 H' ∧ Ok ps H' σ' ρ0 ∧ (ys.take i).findSome? out = none, ⟨_, rfl, Nat.zero_le _, Same.refl _, (ok.mono e1).less h0 hρ, by simp⟩, ?_⟩
    rintro i m σ' H' ⟨rfl, hi, s1, ok1, hn⟩
    by_cases hlt : i < ys.length
    · refine .inr ⟨S.go i H' (by rw [List.length_map]; exact hlt) (hid_same s1), fun σ2 H2 => i + 1 ≤ ys.length ∧ Same H1 H2 ∧ Ok ps H2 σ2 ρ0 ∧ (ys.take (i + 1)).findSome? out = none, fun σ2 H2 z => ⟨ys.length - (i + 1), by omega, rfl, z⟩, fun x H'' y => ?_⟩
      obtain ⟨s2, d, g1, g2⟩ := S.yld i H' x H'' [] (by rw [List.length_map]; exact hlt) (hid_same s1) (fun a m => nomatch m) (fun a m => al_mono s1 (al_mono e1 ok.al) a m) y
      obtain ⟨z, hz, hm⟩ : ∃ z, ys[i]? = some z ∧ z ∈ ys := ⟨_, List.getElem?_eq_getElem hlt, List.getElem_mem hlt⟩
      rw [List.getElem?_map, hz] at g1
      cases g1
      have st : ys.take (i + 1) = ys.take i ++ [z] := by rw [List.take_add_one, hz]; rfl
      refine hg z hm ps x σ' H'' (ok1.mono s2) g2 _ fun σ2 H2 s3 ok2 _ => ?_
      have hbi := hb z hm
      cases ho : out z with
      | none =>
        rw [ho] at hbi
        refine hbi ps σ2 H2 _ ok2 fun σ3 H3 s4 ok3 => ⟨hlt, s1.trans (s2.trans (s3.trans s4)), ok3, ?_⟩
        rw [st, List.findSome?_append, hn]
        simp [ho]
      | some e =>
        rw [ho] at hbi
        refine hbi ps σ2 H2 _ ok2 fun v H3 s4 hv => q1 e ?_ v H3 (e1.trans (s1.trans (s2.trans (s3.trans s4)))) hv
        have hx : ys = (ys.take i ++ [z]) ++ ys.drop (i + 1) := by rw [← st, List.take_append_drop]
        rw [hx, List.findSome?_append, List.findSome?_append, hn]
        simp [ho]
    · have hi' : i = ys.length := by omega
      subst hi'
      rw [List.take_length] at hn
      exact .inl ⟨by have := S.stop H' (hid_same s1); rwa [List.length_map] at this, q2 hn σ' H' (e1.trans s1) ok1⟩
  cases hf : ys.findSome? out with
  | none => exact fun ps σ H D ok q => core ps σ H D ok (fun d z => by rw [hf] at z; cases z) fun _ => q
  | some e => exact fun ps σ H D ok q => core ps σ H D ok (fun d z => by rw [hf] at z; cases z; exact q) fun z => by rw [hf] at z; cases z
/-- no turn hands back -/
theorem sv_forN {α : Type} (ys : List α) (g0 : α → PyData) (ρ0 : Rho) (r : α → Rho) (hs : IsD wi ρ (ys.map g0)) (h0 : ρ0.length = ρ.length) (hρ : ∀ (i : Nat) d, ρ0[i]? = some (some d) → ρ[i]? = some (some d)) (hg : ∀ x ∈ ys, GtD g ρ0 (g0 x) (r x) vs)
    (hb : ∀ x ∈ ys, SvO tb (r x) (.next ρ0)) : SvO (tFor wi g tb) ρ (.next ρ0) := by
  have h := sv_for ys g0 ρ0 r (fun _ => none) hs h0 hρ hg hb
  have e : ys.findSome? (fun _ => (none : Option PyData)) = none := List.findSome?_eq_none_iff.mpr fun _ _ => rfl
  rw [e] at h
  exact h
end
end Pm
/-! repr; what defs promise; calls; a def by its body. -/
namespace Pm
open PySem PySem.Spec PyProof.Rows L2
/-! ### repr of data -/
def rRepr (K : PySem.W.Frag) : List V → Hp → VK → Prop := fun xs H Q => ∃ x d, xs = [x] ∧ Dp K H x d ∧ d.showable = true ∧ d.hasDict = false ∧ d.shown.length ≤ sizeLine ∧ d.depth ≤ 64 ∧ Q (.str d.shown) H
theorem cr_repr {X : Cx} (hg : X.A.guards = some []) (hu : X.A.units + 100 < cLine) : CallR X (.builtin "repr") (rRepr X.K) := by
  intro pins s σ H xs us Q I r h
  obtain ⟨x, d, rfl, hd, hs, hn, hz, hdp, q⟩ := h
  obtain ⟨u, rfl, ru⟩ := vals1 r
  obtain ⟨as, rd⟩ := Dp.reads I d x u hd ru
  cases rd with
  | none => exact PySem.P.repr_of_none ⟨.str (PyData.shown .none), H, I.tok _, ⟨s.toks, by simp only [PyData.shown]⟩, q⟩
  | bool b => exact PySem.P.repr_of_bool ⟨.str (PyData.shown (.bool b)), H, I.tok _, ⟨s.toks, by simp only [PyData.shown]⟩, q⟩
  | int i t => exact PySem.P.repr_of_int (by simpa [PyData.showable] using hs) ⟨.str (PyData.shown (.int i)), H, I.tok _, ⟨s.toks, by simp only [PyData.shown]⟩, q⟩
  | str y t => exact PySem.P.repr_of_str ⟨.str (PyData.shown (.str y)), H, I.tok _, ⟨s.toks, by simp only [PyData.shown]⟩, q⟩ (by simpa only [PyData.shown] using hz)
  | list h1 h2 h3 h4 => exact repr_of_reads' (.list h1 h2 h3 h4) hs (fun z => by rw [hn] at z; cases z) hg (by omega) (fun _ _ e => e) (fun h' w tk hk => ⟨.str _, H, I.kept (t' := tk) hk, ⟨_, rfl⟩, q⟩) hz
  | tuple h1 h2 h3 h4 => exact repr_of_reads' (.tuple h1 h2 h3 h4) hs (fun z => by rw [hn] at z; cases z) hg (by omega) (fun _ _ e => e) (fun h' w tk hk => ⟨.str _, H, I.kept (t' := tk) hk, ⟨_, rfl⟩, q⟩) hz
  | dict h1 h2 h3 h4 h5 => simp [PyData.hasDict] at hn
/-- what repr asks of data -/
structure Shw (d : PyData) : Prop where
  s : d.showable = true
  n : d.hasDict = false
  z : d.shown.length ≤ sizeLine
  d : d.depth ≤ 64
theorem rc_repr {K : PySem.W.Frag} {d : PyData} (h : Shw d) : RcD (rRepr K) [d] (.str d.shown) := fun ps xs H al hx Q q => by
  obtain ⟨v, e1, h1⟩ := one_of hx
  exact ⟨v, d, e1, (h1.mono (fun _ _ h => (of_hid h).1)).dp, h.s, h.n, h.z, h.d, q _ H (Same.refl H) dt_str⟩
/-! ### what a def promises -/
/-- from data to data, nothing that stands is changed -/
def spF (pre : List PyData → Prop) (f : List PyData → PyData) : Sp := fun vs H Q _ => ∃ (ps : List Addr) (ds : List PyData), (∀ a ∈ ps, H a ≠ none) ∧ DtA (hid ps H) ds vs ∧ pre ds ∧ ∀ v H2, Same H H2 → Dt (hid ps H2) (f ds) v → Q v H2
section
variable {K : PySem.W.Frag} {ρ : Rho} {tr : TA} {ds : List PyData} {pre : List PyData → Prop} {f : List PyData → PyData} {E : XK}
theorem ev_call (h : EvA tr ρ ds) (hp : pre ds) : EvD (tCall (spF pre f) [] E tr) ρ (f ds) := fun ps σ H ok Q q => h ps σ H ok _ fun vs H1 e1 hv =>
  ⟨ps, ds, al_mono e1 ok.al, by rw [List.append_nil]; exact hv, hp, fun v H2 e2 h2 => q v H2 (e1.trans e2) h2⟩
theorem ev_callIs {d : PyData} (h : EvA tr ρ ds) (hp : pre ds) (e : f ds = d) : EvD (tCall (spF pre f) [] E tr) ρ d := e ▸ ev_call h hp
end
/-- a def of the module that keeps a promise; no error leaves it -/
structure Cal (P : Program) (w : World) (K : PySem.W.Frag) (mg : Str → Option Value) (base : Heap) (x : Str) (k : Nat) (pn : List Str) (sp : Sp) : Prop where
  ex : ∃ f fd, FnOk P w K mg base CX0 k f fd pn sp ∧ Binds K fd pn [] ∧ mg x = some (.ref f) ∧ PySem.W.keepIn K (.ref f) = true
theorem Cal.up {P : Program} {w : World} {K : PySem.W.Frag} {mg : Str → Option Value} {base : Heap} {x : Str} {j k : Nat} {pn : List Str} {sp : Sp} (C : Cal P w K mg base x j pn sp) (h : j ≤ k) : Cal P w K mg base x k pn sp := by
  obtain ⟨f, fd, G, b, g, kp⟩ := C.ex
  exact ⟨f, fd, G.mono h, b, g, kp⟩
theorem Cal.imp {P : Program} {w : World} {K : PySem.W.Frag} {mg : Str → Option Value} {base : Heap} {x : Str} {k : Nat} {pn : List Str} {sp sp' : Sp} (C : Cal P w K mg base x k pn sp) (h : ∀ vs H Q E, sp' vs H Q E → sp vs H Q E) : Cal P w K mg base x k pn sp' := by
  obtain ⟨f, fd, G, b, g, kp⟩ := C.ex
  exact ⟨f, fd, G.imp h, b, g, kp⟩
/-- a promise for fewer arguments -/
theorem spF_less {pre pre' : List PyData → Prop} {f f' : List PyData → PyData} (h : ∀ ds, pre' ds → pre ds ∧ f ds = f' ds) : ∀ vs H Q E, spF pre' f' vs H Q E → spF pre f vs H Q E := fun vs H Q E ⟨ps, ds, h1, h2, h3, h4⟩ =>
  ⟨ps, ds, h1, h2, (h ds h3).1, by rw [(h ds h3).2]; exact h4⟩
section
variable {X : Cx} {x : Str} {j k : Nat} {pn : List Str} {sp : Sp} {e : Expr} {es : List Expr} {t : TA} {p pos : Pos}
theorem pe_cal (C : Cal X.prog X.w X.K X.mg X.base x j pn sp) (hr : Room k X.A) (hj : j ≤ k) (hg : Gl X x) (ha : PA X (e :: es) t) (hdb : (x == ("__debug__" : Str)) = false := by decide)
    (he : starEach (e :: es) X.env = (false, eval e X.env) :: starEach es X.env := by rfl) (hpl : (backTo pos (starEach es X.env)).any (·.1) = false := by rfl) : PE X (.Call (.Name x p) (e :: es) [] pos) (tCall sp [] E0 t) := by
  obtain ⟨f, fd, G, b, g, kp⟩ := C.ex
  exact pe_call (G.mono hj) hr hg g kp b .nil pass0 ha hdb he hpl
theorem pe_cal0 (C : Cal X.prog X.w X.K X.mg X.base x j pn sp) (hr : Room k X.A) (hj : j ≤ k) (hg : Gl X x) (hdb : (x == ("__debug__" : Str)) = false := by decide) : PE X (.Call (.Name x p) [] [] pos) (tCall sp [] E0 tNil) := by
  obtain ⟨f, fd, G, b, g, kp⟩ := C.ex
  exact pe_call0 (G.mono hj) hr hg g kp b .nil pass0 hdb
end
/-! ### a def by its body -/
abbrev FnP (K : PySem.W.Frag) (x : Str) (st : Stmt) (f : Addr) (fd : FuncData) : Prop := FunD K x x (defArgs st) (defBody st) (defScope st) [] [] f fd
/-- a def as it stands: where, and that it binds by its parameters -/
structure Stands (K : PySem.W.Frag) (mg : Str → Option Value) (x : Str) (st : Stmt) (pn : List Str) : Prop where
  ex : ∃ f fd, FnP K x st f fd ∧ Binds K fd pn [] ∧ mg x = some (.ref f)
/-- the names' data at the entry -/
def rho0 (N : List Str) (ds : List PyData) : Rho := ds.map some ++ List.replicate (N.length - ds.length) none
theorem dta_ok {ps : List Addr} {H : Hp} {N : List Str} {ds : List PyData} {vs : List V} (al : ∀ a ∈ ps, H a ≠ none) (h : DtA (hid ps H) ds vs) : Ok ps H (L2.start N vs) (rho0 N ds) := by
  have hl := h.length
  refine ⟨by simp [L2.start, rho0, hl], fun i d q => ?_, al⟩
  unfold rho0 at q
  by_cases hi : i < ds.length
  · rw [List.getElem?_append_left (by simpa using hi), List.getElem?_map] at q
    cases e : ds[i]? with
    | none => rw [e] at q; cases q
    | some d' =>
      rw [e] at q
      cases q
      obtain ⟨v, h1, h2⟩ := h.get e
      refine ⟨v, ?_, h2⟩
      unfold L2.start
      rw [List.getElem?_append_left (by rw [List.length_map, hl]; exact hi), List.getElem?_map, h1]; rfl
  · rw [List.getElem?_append_right (by simpa using hi), List.getElem?_replicate] at q
    split at q <;> cases q
section
variable {P : Program} {w : World} {K : PySem.W.Frag} {mg : Str → Option Value} {base : Heap} {x : Str} {st : Stmt} {N pn : List Str} {k : Nat}
/-- any promise -/
theorem Stands.cal {sp : Sp} (F : Stands K mg x st pn) (S : FnScope N pn (defScope st)) (len : ∀ vs H Q E, sp vs H Q E → vs.length = pn.length)
    (h : ∀ (f : Addr) (cdv : Value) (A : Around) (outer : List Env) (s : Shared) (H : Hp) (E : XK), Room k (A.deeper (envOfC x (defScope st) s.heap.objs.size f cdv)) →
      ∃ t, PSs (cxOf CX0 P w K mg base N x (defScope st) f cdv A outer s H E).nox (defBody st) t ∧ ∀ vs (Q : VK), sp vs H Q E → t { nx := fun _ H' => Q .non H', rt := Q } (L2.start N vs) H) : Cal P w K mg base x (k + 1) pn sp := by
  obtain ⟨f, fd, F, b, g⟩ := F.ex
  refine ⟨f, fd, F.ok S len (fun cdv A outer s H vs Q E hr hsp => ?_), b, g, F.kp⟩
  obtain ⟨t, h1, h2⟩ := h f cdv A outer s H E hr
  exact ⟨t, h1.nox, h2 vs Q hsp⟩
/-- from data to data -/
theorem Stands.pure {pre : List PyData → Prop} {g : List PyData → PyData} (F : Stands K mg x st pn) (S : FnScope N pn (defScope st)) (len : ∀ ds, pre ds → ds.length = pn.length)
    (h : ∀ (f : Addr) (cdv : Value) (A : Around) (outer : List Env) (s : Shared) (H : Hp) (E : XK), Room k (A.deeper (envOfC x (defScope st) s.heap.objs.size f cdv)) →
      ∃ t, PSs (cxOf CX0 P w K mg base N x (defScope st) f cdv A outer s H E).nox (defBody st) t ∧ ∀ ds, pre ds → SvO t (rho0 N ds) (.ret (g ds))) : Cal P w K mg base x (k + 1) pn (spF pre g) := by
  refine F.cal S (fun vs H Q E ⟨ps, ds, al, hd, hp, _⟩ => by rw [hd.length]; exact len ds hp) fun f cdv A outer s H E hr => ?_
  obtain ⟨t, h1, h2⟩ := h f cdv A outer s H E hr
  refine ⟨t, h1, fun vs Q ⟨ps, ds, al, hd, hp, q⟩ => ?_⟩
  exact h2 ds hp ps _ H _ (dta_ok al hd) q
end
/-! ### tests whose answer is known -/
section
variable {ρ : Rho} {ta tb : TE} {t u : TT} {b : Bool}
theorem et_notT (h : EvT t ρ true) : EvT (tNot t) ρ false := et_not h
theorem et_notF (h : EvT t ρ false) : EvT (tNot t) ρ true := et_not h
theorem et_orT (h : EvT t ρ true) : EvT (tOr t u) ρ true := fun ps σ H ok Q q => h ps σ H ok _ fun H1 e1 => iteT (q H1 e1)
theorem et_orF (h : EvT t ρ false) (h2 : EvT u ρ b) : EvT (tOr t u) ρ b := fun ps σ H ok Q q => h ps σ H ok _ fun H1 e1 => iteF (h2 ps σ H1 (ok.mono e1) Q fun H2 e2 => q H2 (e1.trans e2))
theorem et_andF (h : EvT t ρ false) : EvT (tAnd t u) ρ false := fun ps σ H ok Q q => h ps σ H ok _ fun H1 e1 => iteF (q H1 e1)
theorem et_andT (h : EvT t ρ true) (h2 : EvT u ρ b) : EvT (tAnd t u) ρ b := fun ps σ H ok Q q => h ps σ H ok _ fun H1 e1 => iteT (h2 ps σ H1 (ok.mono e1) Q fun H2 e2 => q H2 (e1.trans e2))
theorem ev_andT (h : EvD ta ρ (.bool true)) (h2 : EvD tb ρ (.bool b)) : EvD (tAndV ta tb) ρ (.bool b) := (ev_and h fun _ => h2).is (by rw [Bool.true_and])
theorem ev_andF (h : EvD ta ρ (.bool false)) : EvD (tAndV ta tb) ρ (.bool false) := fun ps σ H ok Q q => h ps σ H ok _ fun v H1 e1 hv => ⟨false, of_bl hv, iteF (q _ H1 e1 dt_bl)⟩
theorem ev_orT (h : EvD ta ρ (.bool true)) : EvD (tOrV ta tb) ρ (.bool true) := fun ps σ H ok Q q => h ps σ H ok _ fun v H1 e1 hv => ⟨true, of_bl hv, iteT (q _ H1 e1 dt_bl)⟩
theorem ev_orF (h : EvD ta ρ (.bool false)) (h2 : EvD tb ρ (.bool b)) : EvD (tOrV ta tb) ρ (.bool b) := (ev_or h fun _ => h2).is (by rw [Bool.false_or])
theorem ev_notT (h : EvD ta ρ (.bool true)) : EvD (tNotV ta) ρ (.bool false) := ev_not h
theorem ev_notF (h : EvD ta ρ (.bool false)) : EvD (tNotV ta) ρ (.bool true) := ev_not h
end
/-! ### fewer names told -/
structure Rle (ρ0 ρ : Rho) : Prop where
  len : ρ0.length = ρ.length
  val : ∀ (i : Nat) d, ρ0[i]? = some (some d) → ρ[i]? = some (some d)
section
variable {ρ ρ0 ρ1 ρ2 : Rho} {wi : TI} {g : TG} {tb ts tw : TS} {vs : List Nat}
theorem Rle.refl : Rle ρ ρ := ⟨rfl, fun _ _ h => h⟩
theorem Rle.trans (a : Rle ρ0 ρ1) (b : Rle ρ1 ρ2) : Rle ρ0 ρ2 := ⟨a.len.trans b.len, fun i d h => b.val i d (a.val i d h)⟩
theorem Rle.set (h : Rle ρ0 ρ) {j : Nat} (n : ρ0[j]? = some none) (x : Option PyData) : Rle ρ0 (ρ.set j x) := by
  refine ⟨by rw [List.length_set]; exact h.len, fun i d q => ?_⟩
  by_cases e : j = i
  · subst e; rw [n] at q; cases q
  · rw [List.getElem?_set_ne e]; exact h.val i d q
theorem Ok.rle {ps : List Addr} {H : Hp} {σ : L2.St} (ok : Ok ps H σ ρ) (h : Rle ρ0 ρ) : Ok ps H σ ρ0 := ok.less h.len h.val
theorem sv_less (h : SvO ts ρ (.next ρ1)) (l : Rle ρ2 ρ1) : SvO ts ρ (.next ρ2) := fun ps σ H D ok q => h ps σ H D ok fun σ2 H2 e ok2 => q σ2 H2 e (ok2.rle l)
theorem sv_more {o : Out} (h : SvO ts ρ0 o) (l : Rle ρ0 ρ) : SvO ts ρ o := by
  cases o with
  | ret d => exact fun ps σ H D ok q => h ps σ H D (ok.rle l) q
  | next ρ2 => exact fun ps σ H D ok q => h ps σ H D (ok.rle l) q
theorem sv_forL {α : Type} (ys : List α) (g0 : α → PyData) (ρ0 : Rho) (r : α → Rho) (hs : IsD wi ρ (ys.map g0)) (l : Rle ρ0 ρ) (hg : ∀ x ∈ ys, GtD g ρ0 (g0 x) (r x) vs)
    (hb : ∀ x ∈ ys, SvO tb (r x) (.next ρ0)) : SvO (tFor wi g tb) ρ (.next ρ0) := sv_forN ys g0 ρ0 r hs l.len l.val hg hb
end
theorem upI_nD (n : Nat) : upI 0 n = (List.range n).map fun (i : Nat) => PyData.int (i : Int) := by
  unfold upI
  refine List.map_congr_left fun i _ => ?_
  rw [Int.zero_add]
theorem is_rangeN {ρ : Rho} {tr : TA} {n : Nat} (h : EvA tr ρ [.int (n : Int)]) (hn : n ≤ 100000) : IsD (iRng1 tr) ρ ((List.range n).map fun (i : Nat) => PyData.int (i : Int)) := by
  rw [← upI_nD]; exact is_range h hn
theorem Rle.nil : Rle [] [] := Rle.refl
theorem Rle.same {x : Option PyData} {l m : Rho} (h : Rle l m) : Rle (x :: l) (x :: m) := by
  refine ⟨by rw [List.length_cons, List.length_cons, h.len], fun i d q => ?_⟩
  cases i with
  | zero => exact q
  | succ i => exact h.val i d q
theorem Rle.drop {x : Option PyData} {l m : Rho} (h : Rle l m) : Rle (none :: l) (x :: m) := by
  refine ⟨by rw [List.length_cons, List.length_cons, h.len], fun i d q => ?_⟩
  cases i with
  | zero => cases q
  | succ i => exact h.val i d q
/-! ### rules with the written part named -/
section
variable {X : Cx} {K : PySem.W.Frag}
theorem k_ix (h : X.K = K) : IxR X (rIx K) := by subst h; exact ix_seq
theorem k_in (h : X.K = K) : OpR X (compareOp .In) (rIn K false) := by subst h; exact op_in_seq
theorem k_nin (h : X.K = K) : OpR X (compareOp .NotIn) (rIn K true) := by subst h; exact op_notIn_seq
theorem k_eqD (h : X.K = K) (hu : X.A.units + 64 < cLine) : OpR X (compareOp .Eq) (rEqD K) := by subst h; exact op_eqD hu
theorem k_neD (h : X.K = K) (hu : X.A.units + 64 < cLine) : OpR X (compareOp .NotEq) (rNeD K) := by subst h; exact op_neD hu
theorem k_len (h : X.K = K) : CallR X (.builtin "len") (rLenA K) := by subst h; exact call_len
theorem k_all (h : X.K = K) (hc : X.calm = true) : CallR X (.builtin "all") (rAll K) := by subst h; exact cr_all hc
theorem k_any (h : X.K = K) (hc : X.calm = true) : CallR X (.builtin "any") (rAny K) := by subst h; exact cr_any hc
theorem k_list (h : X.K = K) : CallR X (.type "list") (rListO K) := by subst h; exact call_list_of
theorem k_tuple (h : X.K = K) : CallR X (.type "tuple") (rTupO K) := by subst h; exact call_tuple_of
theorem k_sl (h : X.K = K) : SlR X (rSlE K) := by subst h; exact sl_either
theorem k_slL (h : X.K = K) : SlR X (rSlL K) := by subst h; exact sl_list
theorem k_catT (h : X.K = K) : OpR X (binaryOp .Add) (rCatA K) := by subst h; exact op_catA
theorem k_isi (h : X.K = K) : CallR X (.builtin "isinstance") (rIsi K) := by subst h; exact call_isi
theorem k_isiT (h : X.K = K) : CallR X (.builtin "isinstance") (rIsiT K) := by subst h; exact call_isiT
theorem k_repr (h : X.K = K) (hg : X.A.guards = some []) (hu : X.A.units + 100 < cLine) : CallR X (.builtin "repr") (rRepr K) := by subst h; exact cr_repr hg hu
theorem k_pl {tg l : Expr} {tl : TE} (h : X.K = K) (hl : PE X l tl) : PI X tg l (iList K tl) := by subst h; exact pi_list hl
theorem k_pt {tg l : Expr} {tl : TE} (h : X.K = K) (hl : PE X l tl) : PI X tg l (iTup K tl) := by subst h; exact pi_tup hl
theorem k_pe {tg l : Expr} {i : Nat} (h : X.K = K) (hl : PE X l (tVar i)) : PI X tg l (iEither K i) := by subst h; exact pi_either hl
theorem k_zip {e e2 : Expr} {ta : TA} {p pos tpos : Pos} {elts : List Expr} {kk : Nat} (h : X.K = K) (hg : Gl X "zip") (hm : X.mg "zip" = none) (ha : PA X [e, e2] ta)
    (hs : starEach [e, e2] X.env = (false, eval e X.env) :: starEach [e2] X.env := by rfl) (hpl : (backTo pos (starEach [e2] X.env)).any (·.1) = false := by rfl) :
    PI X (.Tuple elts kk tpos) (.Call (.Name "zip" p) [e, e2] [] pos) (RZ.iZipA K ta) := by subst h; exact RZ.pi_zipA hg hm ha hs hpl
theorem k_gt {es : List Expr} {k : Nat} {pos : Pos} {t : TGs} {n : Nat} (h : X.K = K) (hc : X.calm = true) (ht : PGs X es t)
    (hn : (assignEach es X.env).length = n := by rfl) (hst : (assignEach es X.env).findIdx? (·.1) = none := by rfl) : PG X (.Tuple es k pos) (gTup K n t) := by subst h; exact pg_tup hc ht hn hst
end
end Pm
/-! The mirror: kinds, states, and the size of data. -/
namespace Pm
open PySem
/-! ### small data -/
def okStr : List Str := ["a", "b", "", "low", "high", "A", "abcdefghi", "zzzzzzzz"]
mutual
def fine : PyData → Bool
  | .none => true
  | .bool _ => true
  | .int i => decide (-1 ≤ i) && decide (i ≤ 9)
  | .str x => decide (x ∈ okStr)
  | .list ds => fineA ds
  | .tuple ds => fineA ds
  | .dict _ => false
def fineA : List PyData → Bool
  | [] => true
  | d :: ds => fine d && fineA ds
end
mutual
def wt : PyData → Nat
  | .none => 12
  | .bool _ => 12
  | .int _ => 12
  | .str _ => 12
  | .list ds => wtA ds + 3
  | .tuple ds => wtA ds + 3
  | .dict _ => 0
def wtA : List PyData → Nat
  | [] => 0
  | d :: ds => wt d + 2 + wtA ds
end
theorem fineA_all : ∀ {ds : List PyData}, fineA ds = true ↔ ∀ d ∈ ds, fine d = true
  | [] => by simp [fineA]
  | d :: ds => by simp [fineA, fineA_all (ds := ds)]
theorem wtA_len : ∀ ds : List PyData, 2 * ds.length ≤ wtA ds
  | [] => by simp [wtA]
  | d :: ds => by have := wtA_len ds; simp only [List.length_cons, wtA]; omega
theorem wtA_mem : ∀ {ds : List PyData} {d : PyData}, d ∈ ds → wt d ≤ wtA ds
  | [], _, h => nomatch h
  | e :: ds, d, h => by
    simp only [wtA]
    rcases List.mem_cons.mp h with h | h
    · subst h; omega
    · have := wtA_mem h; omega
theorem wtA_append : ∀ ds es : List PyData, wtA (ds ++ es) = wtA ds + wtA es
  | [], es => by simp [wtA]
  | d :: ds, es => by simp only [List.cons_append, wtA, wtA_append ds es]; omega
theorem depA_mem : ∀ {ds : List PyData} {d : PyData}, d ∈ ds → d.depth ≤ PyData.depthAll ds
  | [], _, h => nomatch h
  | e :: ds, d, h => by
    simp only [PyData.depthAll]
    rcases List.mem_cons.mp h with h | h
    · subst h; omega
    · have := depA_mem h; omega
theorem depA_le : ∀ {ds : List PyData} {n : Nat}, (∀ d ∈ ds, d.depth ≤ n) → PyData.depthAll ds ≤ n
  | [], _, _ => by simp [PyData.depthAll]
  | e :: ds, n, h => by
    simp only [PyData.depthAll]
    have h1 := h e List.mem_cons_self
    have h2 := depA_le (ds := ds) fun d m => h d (List.mem_cons_of_mem _ m)
    omega
structure Sm (n m : Nat) (d : PyData) : Prop where
  f : fine d = true
  w : wt d ≤ n
  d : d.depth ≤ m
theorem Sm.le {n m n' m' : Nat} {d : PyData} (h : Sm n m d) (hn : n ≤ n') (hm : m ≤ m') : Sm n' m' d := ⟨h.f, Nat.le_trans h.w hn, Nat.le_trans h.d hm⟩
theorem Sm.memL {n m : Nat} {d : PyData} {ds : List PyData} (h : Sm n m (.list ds)) (hm : d ∈ ds) : Sm n m d := by
  refine ⟨fineA_all.mp (by simpa [fine] using h.f) d hm, ?_, ?_⟩
  · have h1 := wtA_mem hm; have h2 := h.w; simp only [wt] at h2; omega
  · have h1 := depA_mem hm; have h2 := h.d; simp only [PyData.depth] at h2; omega
theorem Sm.memT {n m : Nat} {d : PyData} {ds : List PyData} (h : Sm n m (.tuple ds)) (hm : d ∈ ds) : Sm n m d := by
  refine ⟨fineA_all.mp (by simpa [fine] using h.f) d hm, ?_, ?_⟩
  · have h1 := wtA_mem hm; have h2 := h.w; simp only [wt] at h2; omega
  · have h1 := depA_mem hm; have h2 := h.d; simp only [PyData.depth] at h2; omega
theorem Sm.mem {n m : Nat} {d e : PyData} {ds : List PyData} (h : Sm n m e) (hs : IsSeq e ds) (hm : d ∈ ds) : Sm n m d := by
  cases hs
  · exact h.memL hm
  · exact h.memT hm
theorem Sm.len {n m : Nat} {e : PyData} {ds : List PyData} (h : Sm n m e) (hs : IsSeq e ds) : 2 * ds.length ≤ n := by
  have h1 := wtA_len ds
  have h2 := h.w
  cases hs <;> simp only [wt] at h2 <;> omega
theorem Sm.noDict {n m : Nat} {d : PyData} (h : Sm n m d) : noDict d = true := by
  cases d <;> first | rfl | (have := h.f; simp [fine] at this)
theorem okStr_ok : ∀ x ∈ okStr, PyData.strOk x = true := by decide +kernel
theorem okStr_len : ∀ x ∈ okStr, x.length ≤ 9 := by decide +kernel
theorem okStr_rep : ∀ x ∈ okStr, (reprText x).length ≤ 12 := by decide +kernel
theorem okStr_asc : ∀ x ∈ okStr, ∀ c ∈ (reprText x).cps.toList, c < 128 := by decide +kernel
theorem okInt_rep : ∀ i : Int, -1 ≤ i → i ≤ 9 → ((toString i : String) : Str).length ≤ 12 ∧ i.natAbs.log2 < 1920 ∧ ∀ c ∈ ((toString i : String) : Str).cps.toList, c < 128 := by
  intro i h1 h2
  have h : i = -1 ∨ i = 0 ∨ i = 1 ∨ i = 2 ∨ i = 3 ∨ i = 4 ∨ i = 5 ∨ i = 6 ∨ i = 7 ∨ i = 8 ∨ i = 9 := by omega
  rcases h with h | h | h | h | h | h | h | h | h | h | h <;> subst h <;> decide +kernel
mutual
theorem fine_canLay : ∀ d : PyData, fine d = true → d.canLay0 = true
  | .none, _ => by simp [PyData.canLay0]
  | .bool _, _ => by simp [PyData.canLay0]
  | .int _, _ => by simp [PyData.canLay0]
  | .str x, h => by simp only [PyData.canLay0]; exact okStr_ok x (by simpa [fine] using h)
  | .list ds, h => by simp only [PyData.canLay0]; exact fineA_canLay ds (by simpa [fine] using h)
  | .tuple ds, h => by simp only [PyData.canLay0]; exact fineA_canLay ds (by simpa [fine] using h)
  | .dict _, h => by simp [fine] at h
theorem fineA_canLay : ∀ ds : List PyData, fineA ds = true → PyData.canLayAll0 ds = true
  | [], _ => by simp [PyData.canLayAll0]
  | d :: ds, h => by
    simp only [fineA, Bool.and_eq_true] at h
    simp only [PyData.canLayAll0, fine_canLay d h.1, fineA_canLay ds h.2, Bool.and_self]
end
theorem Sm.shaped {n m : Nat} {d : PyData} (h : Sm n m d) (hm : m ≤ 64) : SeqAt.shaped d = true := by
  unfold SeqAt.shaped
  rw [fine_canLay d h.f, Bool.true_and]
  exact decide_eq_true (Nat.le_trans h.d hm)
mutual
theorem fine_show : ∀ d : PyData, fine d = true → d.showable = true
  | .none, _ => by simp [PyData.showable]
  | .bool _, _ => by simp [PyData.showable]
  | .int i, h => by
    simp only [fine, Bool.and_eq_true, decide_eq_true_eq] at h
    simp only [PyData.showable]
    exact decide_eq_true (okInt_rep i h.1 h.2).2.1
  | .str x, h => by simp [PyData.showable]
  | .list ds, h => by simp only [PyData.showable]; exact fineA_show ds (by simpa [fine] using h)
  | .tuple ds, h => by simp only [PyData.showable]; exact fineA_show ds (by simpa [fine] using h)
  | .dict _, h => by simp [fine] at h
theorem fineA_show : ∀ ds : List PyData, fineA ds = true → PyData.showableAll ds = true
  | [], _ => by simp [PyData.showableAll]
  | d :: ds, h => by
    simp only [fineA, Bool.and_eq_true] at h
    simp only [PyData.showableAll, fine_show d h.1, fineA_show ds h.2, Bool.and_self]
end
mutual
theorem fine_len : ∀ d : PyData, fine d = true → d.shown.length ≤ wt d
  | .none, _ => by simp only [PyData.shown, wt]; decide
  | .bool b, _ => by cases b <;> simp only [PyData.shown, wt] <;> decide
  | .int i, h => by
    simp only [fine, Bool.and_eq_true, decide_eq_true_eq] at h
    simp only [PyData.shown, wt]
    exact (okInt_rep i h.1 h.2).1
  | .str x, h => by
    simp only [PyData.shown, wt]
    exact okStr_rep x (by simpa [fine] using h)
  | .list ds, h => by
    have h1 := fineA_len ds (by simpa [fine] using h)
    have h2 := listText_len_le (PyData.shownAll ds)
    rw [PyData.shownAll_length] at h2
    simp only [PyData.shown, wt]; omega
  | .tuple ds, h => by
    have h1 := fineA_len ds (by simpa [fine] using h)
    have h2 := tupleText_len_le (PyData.shownAll ds)
    rw [PyData.shownAll_length] at h2
    simp only [PyData.shown, wt]; omega
  | .dict _, h => by simp [fine] at h
theorem fineA_len : ∀ ds : List PyData, fineA ds = true → ((PyData.shownAll ds).map (·.length)).sum + 2 * ds.length ≤ wtA ds
  | [], _ => by simp [PyData.shownAll, wtA]
  | d :: ds, h => by
    simp only [fineA, Bool.and_eq_true] at h
    have h1 := fine_len d h.1
    have h2 := fineA_len ds h.2
    simp only [PyData.shownAll, List.map_cons, List.sum_cons, List.length_cons, wtA]; omega
end
mutual
theorem fine_noD : ∀ d : PyData, fine d = true → d.hasDict = false
  | .none, _ => by simp [PyData.hasDict]
  | .bool _, _ => by simp [PyData.hasDict]
  | .int _, _ => by simp [PyData.hasDict]
  | .str x, h => by simp [PyData.hasDict]
  | .list ds, h => by simp only [PyData.hasDict]; exact fineA_noD ds (by simpa [fine] using h)
  | .tuple ds, h => by simp only [PyData.hasDict]; exact fineA_noD ds (by simpa [fine] using h)
  | .dict _, h => by simp [fine] at h
theorem fineA_noD : ∀ ds : List PyData, fineA ds = true → PyData.hasDictAll ds = false
  | [], _ => by simp [PyData.hasDictAll]
  | d :: ds, h => by
    simp only [fineA, Bool.and_eq_true] at h
    simp only [PyData.hasDictAll, fine_noD d h.1, fineA_noD ds h.2, Bool.or_self]
end
theorem Sm.shw {n m : Nat} {d : PyData} (h : Sm n m d) (hn : n ≤ 100000) (hm : m ≤ 64) : Shw d :=
  ⟨fine_show d h.f, fine_noD d h.f, small_ok (Nat.le_trans (fine_len d h.f) (Nat.le_trans h.w hn)), Nat.le_trans h.d hm⟩
/-- plain signs -/
def asc (x : Str) : Prop := ∀ c ∈ x.cps.toList, c < 128
theorem asc_app {x y : Str} (h1 : asc x) (h2 : asc y) : asc (x ++ y) := by
  intro c hc
  have e : (x ++ y).cps = x.cps ++ y.cps := rfl
  rw [e, Array.toList_append] at hc
  rcases List.mem_append.mp hc with hc | hc
  · exact h1 c hc
  · exact h2 c hc
theorem asc_join {sep : Str} (hs : asc sep) : ∀ ts : List Str, (∀ t ∈ ts, asc t) → asc (Str.join sep ts)
  | [], _ => by intro c hc; simp [Str.join, Str.empty] at hc
  | [x], h => h x List.mem_cons_self
  | x :: y :: r, h => by
    show asc (x ++ sep ++ Str.join sep (y :: r))
    exact asc_app (asc_app (h x List.mem_cons_self) hs) (asc_join hs (y :: r) fun t m => h t (List.mem_cons_of_mem _ m))
mutual
theorem fine_asc : ∀ d : PyData, fine d = true → asc d.shown
  | .none, _ => by simp only [PyData.shown]; unfold asc; decide +kernel
  | .bool b, _ => by cases b <;> simp only [PyData.shown] <;> unfold asc <;> decide +kernel
  | .int i, h => by
    simp only [fine, Bool.and_eq_true, decide_eq_true_eq] at h
    simp only [PyData.shown]
    exact (okInt_rep i h.1 h.2).2.2
  | .str x, h => by
    simp only [PyData.shown]
    exact okStr_asc x (by simpa [fine] using h)
  | .list ds, h => by
    rw [PyData.shown_list]
    refine asc_app (asc_app ?_ (asc_join ?_ _ (fineA_asc ds (by simpa [fine] using h)))) ?_ <;> unfold asc <;> decide +kernel
  | .tuple ds, h => by
    rw [PyData.shown_tuple]
    refine asc_app (asc_app ?_ (asc_join ?_ _ (fineA_asc ds (by simpa [fine] using h)))) ?_
    · unfold asc; decide +kernel
    · unfold asc; decide +kernel
    · split <;> unfold asc <;> decide +kernel
  | .dict _, h => by simp [fine] at h
theorem fineA_asc : ∀ ds : List PyData, fineA ds = true → ∀ t ∈ PyData.shownAll ds, asc t
  | [], _ => by simp [PyData.shownAll]
  | d :: ds, h => by
    simp only [fineA, Bool.and_eq_true] at h
    intro t ht
    simp only [PyData.shownAll] at ht
    rcases List.mem_cons.mp ht with ht | ht
    · subst ht; exact fine_asc d h.1
    · exact fineA_asc ds h.2 t ht
end
/-- [text of small data, 'none'] may be shown -/
theorem shw_two {n m : Nat} {d : PyData} (h : Sm n m d) (hn : n ≤ 100000) : Shw (.list [.str d.shown, .str "none"]) := by
  have h1 : d.shown.length ≤ 100000 := Nat.le_trans (fine_len d h.f) (Nat.le_trans h.w hn)
  have h2 : (reprText d.shown).length ≤ 10 * d.shown.length + 2 := StrLaws.reprText_len _ fun c hc => Nat.lt_of_lt_of_le (fine_asc d h.f c hc) (by decide)
  refine ⟨by simp [PyData.showable, PyData.showableAll], by simp [PyData.hasDict, PyData.hasDictAll], ?_, by simp [PyData.depth, PyData.depthAll]⟩
  have h3 := listText_len_le (PyData.shownAll [.str d.shown, .str "none"])
  simp only [PyData.shownAll, PyData.shown, List.map_cons, List.map_nil, List.sum_cons, List.sum_nil, List.length_cons, List.length_nil] at h3
  have h4 : (reprText "none").length ≤ 12 := by decide +kernel
  simp only [PyData.shown, PyData.shownAll]
  rw [sizeLine_eq]; omega
/-- [x] may be shown -/
theorem Shw.one {d : PyData} {n m : Nat} (h : Sm n m d) (hn : n ≤ 100000) (hm : m ≤ 63) : Shw (.list [d]) := by
  refine ⟨by simp [PyData.showable, PyData.showableAll, fine_show d h.f], by simp [PyData.hasDict, PyData.hasDictAll, fine_noD d h.f], ?_, ?_⟩
  · have h3 := listText_len_le (PyData.shownAll [d])
    have h1 : d.shown.length ≤ 100000 := Nat.le_trans (fine_len d h.f) (Nat.le_trans h.w hn)
    simp only [PyData.shownAll, List.map_cons, List.map_nil, List.sum_cons, List.sum_nil, List.length_cons, List.length_nil] at h3
    simp only [PyData.shown, PyData.shownAll]
    rw [sizeLine_eq]; omega
  · have := h.d
    simp only [PyData.depth, PyData.depthAll]; omega
theorem shw_bools (a b : Bool) : Shw (.list [.bool a, .bool b]) := by cases a <;> cases b <;> exact ⟨by decide +kernel, by decide +kernel, by decide +kernel, by decide +kernel⟩
end Pm
/-! The mirror: kinds and states. -/
namespace Pm
open PySem
inductive Kd where
  | count
  | row (n : Nat)
  | tab (rows : List (List Nat))
  | tops (n : Nat) (ties : List (Nat × Nat))
  | map (k : Kd)
  | two (l : Bool) (a b : Kd)
  | above (a b : Kd)
def nD (n : Nat) : PyData := .int (n : Int)
def rowD (r : List Nat) : PyData := .list (r.map nD)
def rowsD (rows : List (List Nat)) : PyData := .list (rows.map rowD)
def tieD (p : Nat × Nat) : PyData := .tuple [nD p.1, nD p.2]
def tiesD (ties : List (Nat × Nat)) : PyData := .list (ties.map tieD)
def wordT (l : Bool) : Str := if l then "later" else "pair"
def Kd.data : Kd → PyData
  | .count => .tuple [.str "count"]
  | .row n => .tuple [.str "row", nD n]
  | .tab rows => .tuple [.str "table", rowsD rows]
  | .tops n ties => .tuple [.str "tops", nD n, tiesD ties]
  | .map k => .tuple [.str "map", k.data]
  | .two l a b => .tuple [.str (wordT l), a.data, b.data]
  | .above a b => .tuple [.str "above", a.data, b.data]
def okTabs : List (List (List Nat)) := [[[0]], [[0, 1], [1, 1]], [[0, 1, 2], [1, 1, 2], [2, 2, 2]], [[0, 1, 2, 3], [1, 1, 3, 3], [2, 3, 2, 3], [3, 3, 3, 3]],
  [[0, 1, 2, 3, 4], [1, 1, 4, 4, 4], [2, 4, 2, 4, 4], [3, 4, 4, 3, 4], [4, 4, 4, 4, 4]], [[0, 1, 2, 3, 4], [1, 1, 4, 3, 4], [2, 4, 2, 4, 4], [3, 3, 4, 3, 4], [4, 4, 4, 4, 4]]]
def okTops : List (Nat × List (Nat × Nat)) := [(0, []), (1, []), (2, []), (2, [(0, 1)]), (3, []), (3, [(0, 1)]), (3, [(0, 2)]), (3, [(1, 2)]), (3, [(0, 1), (0, 2)]), (3, [(0, 1), (1, 2)])]
def Kd.ok : Kd → Bool
  | .count => true
  | .row n => decide (1 ≤ n) && decide (n ≤ 3)
  | .tab rows => decide (rows ∈ okTabs)
  | .tops n ties => decide ((n, ties) ∈ okTops)
  | .map k => k.ok
  | .two _ a b => a.ok && b.ok
  | .above a b => a.ok && b.ok
def Kd.dep : Kd → Nat
  | .map k => k.dep + 1
  | .two _ a b => max a.dep b.dep + 1
  | .above a b => max a.dep b.dep + 1
  | _ => 1
def Kd.size : Kd → Nat
  | .map k => k.size + 1
  | .two _ a b => a.size + b.size + 1
  | .above a b => a.size + b.size + 1
  | _ => 1
theorem Kd.dep_pos : ∀ k : Kd, 1 ≤ k.dep := by intro k; cases k <;> simp [Kd.dep]
theorem Kd.size_pos : ∀ k : Kd, 1 ≤ k.size := by intro k; cases k <;> simp [Kd.size]
/-! ### numbers, names -/
def isCnt : PyData → Bool
  | .int i => decide (0 ≤ i)
  | _ => false
def ltN (n : Nat) : PyData → Bool
  | .int i => decide (i < (n : Int))
  | _ => false
def letters : Str := "abcdefghijklmnopqrstuvwxyz"
def nameOk (s : Str) : Bool := (decide (1 ≤ (s.length : Int)) && decide ((s.length : Int) ≤ 8)) && s.cps.toList.all fun c => decide (c ∈ letters.cps.toList)
def isName : PyData → Bool
  | .str s => nameOk s
  | _ => false
def seqOf : PyData → Option (List PyData)
  | .list ds => some ds
  | .tuple ds => some ds
  | _ => none
def sq (d : PyData) : List PyData := (seqOf d).getD []
theorem seqOf_is {d : PyData} {ds : List PyData} (h : seqOf d = some ds) : IsSeq d ds := by
  cases d <;> simp [seqOf] at h <;> subst h <;> constructor
theorem IsSeq.of {d : PyData} {ds : List PyData} (h : IsSeq d ds) : seqOf d = some ds := by cases h <;> rfl
theorem IsSeq.sq {d : PyData} {ds : List PyData} (h : IsSeq d ds) : sq d = ds := by cases h <;> rfl
/-! ### who is below whom -/
def hiTie (here : Nat) : List (Nat × Nat) → List Nat × List Nat → List Nat × List Nat
  | [], ml => ml
  | (lo, h) :: r, (m, l) => if lo == here && !m.contains h then hiTie here r (m ++ [h], l ++ [h]) else hiTie here r (m, l)
/-- the walk from the points that are left; the last one first -/
def hiRun (ties : List (Nat × Nat)) : Nat → List Nat → List Nat → Option (List Nat)
  | 0, _, _ => none
  | f + 1, m, l => match l.getLast? with
    | none => some m
    | some here => hiRun ties f (hiTie here ties (m, l.dropLast)).1 (hiTie here ties (m, l.dropLast)).2
def ins (x : Nat) : List Nat → List Nat
  | [] => [x]
  | y :: r => if x ≤ y then x :: y :: r else y :: ins x r
def srt : List Nat → List Nat
  | [] => []
  | x :: r => ins x (srt r)
def hiAt (ties : List (Nat × Nat)) (p : Nat) : List Nat := srt ((hiRun ties 20 [] [p]).getD [])
def hiOf (n : Nat) (ties : List (Nat × Nat)) : List (List Nat) := (List.range n).map (hiAt ties)
/-- the law's own way -/
def lhMore (ties : List (Nat × Nat)) (here : Nat) (m : List Nat) : List Nat := (ties.filter fun p => p.1 == here && !m.contains p.2).map (·.2)
def lhRun (ties : List (Nat × Nat)) : Nat → List Nat → List Nat → Option (List Nat)
  | 0, _, _ => none
  | f + 1, m, l => match l.getLast? with
    | none => some m
    | some here => lhRun ties f (m ++ lhMore ties here m) (l.dropLast ++ lhMore ties here m)
def lhAt (ties : List (Nat × Nat)) (p : Nat) : List Nat := (lhRun ties 20 [] [p]).getD []
def lhOf (n : Nat) (ties : List (Nat × Nat)) : List (List Nat) := (List.range n).map (lhAt ties)
theorem hi_ok : ∀ nt ∈ okTops, ∀ p ∈ List.range nt.1, (hiRun nt.2 20 [] [p]).isSome = true ∧ (lhRun nt.2 20 [] [p]).isSome = true ∧ srt (lhAt nt.2 p) = hiAt nt.2 p ∧ (hiAt nt.2 p).contains p = false := by decide +kernel
theorem mem_ins {x y : Nat} : ∀ {l : List Nat}, y ∈ ins x l ↔ y = x ∨ y ∈ l
  | [] => by simp [ins]
  | z :: r => by
    unfold ins
    split
    · simp
    · simp only [List.mem_cons, mem_ins (l := r)]
      constructor
      · rintro (h | h | h) <;> simp [h]
      · rintro (h | h | h) <;> simp [h]
theorem mem_srt {y : Nat} : ∀ {l : List Nat}, y ∈ srt l ↔ y ∈ l
  | [] => by simp [srt]
  | x :: r => by simp only [srt, mem_ins, mem_srt (l := r), List.mem_cons]
theorem hi_mem {n : Nat} {ties : List (Nat × Nat)} (h : (n, ties) ∈ okTops) {p : Nat} (hp : p < n) (q : Nat) : q ∈ hiAt ties p ↔ q ∈ lhAt ties p := by
  have e := (hi_ok _ h p (List.mem_range.mpr hp)).2.2.1
  show q ∈ hiAt ties p ↔ _
  rw [← e, mem_srt]
/-- of these points none is below another one -/
def freeB (ties : List (Nat × Nat)) (ns : List Nat) : Bool := !(ns.any fun p => (hiAt ties p).any fun h => ns.contains h)
/-! ### states -/
/-- the numbers of a list of counts -/
def natOf : PyData → Nat
  | .int i => i.toNat
  | _ => 0
def adj (ds : List PyData) : List PyData := pairs ds (ds.drop 1)
def ltI : PyData → Bool
  | .tuple [.int i, .int j] => decide (i < j)
  | _ => false
def keyOf : PyData → Str
  | .tuple (.str s :: _) => s
  | _ => ""
def ltS : PyData → Bool
  | .tuple [x, y] => decide ((keyOf x).cps.toList < (keyOf y).cps.toList)
  | _ => false
def isLot (n : Nat) (ties : List (Nat × Nat)) (d : PyData) : Bool := match seqOf d with
  | none => false
  | some ps => (ps.all fun p => isCnt p && ltN n p) && ((adj ps).all ltI && freeB ties (ps.map natOf))
def least : Kd → PyData
  | .tops _ _ => .list []
  | .map _ => .list []
  | .two _ a b => .tuple [least a, least b]
  | .above a _ => .tuple [.str "low", least a]
  | _ => .int 0
/-- an entry of a map, its state by f -/
def entBy (f : PyData → PyData) : PyData → PyData
  | .tuple [x, y] => .tuple [x, f y]
  | d => d
def told : Kd → PyData → PyData
  | .tops _ _, d => .list (sq d)
  | .map k, d => .list ((sq d).map (entBy (told k)))
  | .two _ a b, .tuple [x, y] => .tuple [told a x, told b y]
  | .above a b, .tuple [.str s, y] => .tuple [.str s, if s = "low" then told a y else told b y]
  | _, d => d
def entOk (f : PyData → Bool) : PyData → Bool
  | .tuple [x, y] => isName x && f y
  | _ => false
def isSt : Kd → PyData → Bool
  | .count, d => isCnt d
  | .row n, d => isCnt d && ltN n d
  | .tab rows, d => isCnt d && ltN rows.length d
  | .tops n ties, d => isLot n ties d
  | .map k, d => match seqOf d with
    | none => false
    | some es => (es.all (entOk fun y => isSt k y && !PyData.eqv (told k y) (least k))) && (adj es).all ltS
  | .two _ a b, .tuple [x, y] => isSt a x && isSt b y
  | .above a b, .tuple [.str s, y] => if s = "low" then isSt a y else if s = "high" then isSt b y else false
  | _, _ => false
end Pm
namespace Pm
open PySem PySem.Spec PyProof.Rows L2
/-! ### the text -/
def top (i : Nat) : Stmt := PySem.Challenge.pw_partsmet_k13_whole_states_of_kinds.main.body.getD i (.Pass ⟨0, 0, 0, 0⟩)
abbrev sInit : Stmt := inClass (top 3) 0
def dInit : He.DefD := ⟨("InvalidState", some "__init__"), "__init__", "InvalidState.__init__", defArgs sInit, defBody sInit, defScope sInit, [], []⟩
abbrev s_is_integer : Stmt := top 5
def d_is_integer : He.DefD := ⟨("is_integer", none), "is_integer", "is_integer", defArgs s_is_integer, defBody s_is_integer, defScope s_is_integer, [], []⟩
abbrev s_is_count : Stmt := top 6
def d_is_count : He.DefD := ⟨("is_count", none), "is_count", "is_count", defArgs s_is_count, defBody s_is_count, defScope s_is_count, [], []⟩
abbrev s_is_list : Stmt := top 7
def d_is_list : He.DefD := ⟨("is_list", none), "is_list", "is_list", defArgs s_is_list, defBody s_is_list, defScope s_is_list, [], []⟩
abbrev s_are_table_rows : Stmt := top 10
def d_are_table_rows : He.DefD := ⟨("are_table_rows", none), "are_table_rows", "are_table_rows", defArgs s_are_table_rows, defBody s_are_table_rows, defScope s_are_table_rows, [], []⟩
abbrev s_table_is_join : Stmt := top 11
def d_table_is_join : He.DefD := ⟨("table_is_join", none), "table_is_join", "table_is_join", defArgs s_table_is_join, defBody s_table_is_join, defScope s_table_is_join, [], []⟩
abbrev s_is_name_word : Stmt := top 21
def d_is_name_word : He.DefD := ⟨("is_name_word", none), "is_name_word", "is_name_word", defArgs s_is_name_word, defBody s_is_name_word, defScope s_is_name_word, [], []⟩
abbrev s_highs_of_points : Stmt := top 22
def d_highs_of_points : He.DefD := ⟨("highs_of_points", none), "highs_of_points", "highs_of_points", defArgs s_highs_of_points, defBody s_highs_of_points, defScope s_highs_of_points, [], []⟩
abbrev s_is_tie : Stmt := top 23
def d_is_tie : He.DefD := ⟨("is_tie", none), "is_tie", "is_tie", defArgs s_is_tie, defBody s_is_tie, defScope s_is_tie, [], []⟩
abbrev s_are_ties : Stmt := top 24
def d_are_ties : He.DefD := ⟨("are_ties", none), "are_ties", "are_ties", defArgs s_are_ties, defBody s_are_ties, defScope s_are_ties, [], []⟩
abbrev s_has_right_sides : Stmt := top 25
def d_has_right_sides : He.DefD := ⟨("has_right_sides", none), "has_right_sides", "has_right_sides", defArgs s_has_right_sides, defBody s_has_right_sides, defScope s_has_right_sides, [], []⟩
abbrev s_is_kind_value : Stmt := top 26
def d_is_kind_value : He.DefD := ⟨("is_kind_value", none), "is_kind_value", "is_kind_value", defArgs s_is_kind_value, defBody s_is_kind_value, defScope s_is_kind_value, [], []⟩
abbrev s_kind_as_told : Stmt := top 27
def d_kind_as_told : He.DefD := ⟨("kind_as_told", none), "kind_as_told", "kind_as_told", defArgs s_kind_as_told, defBody s_kind_as_told, defScope s_kind_as_told, [], []⟩
abbrev s_want_kind : Stmt := top 28
def d_want_kind : He.DefD := ⟨("want_kind", none), "want_kind", "want_kind", defArgs s_want_kind, defBody s_want_kind, defScope s_want_kind, [], []⟩
abbrev s_is_lot_of_tops : Stmt := top 30
def d_is_lot_of_tops : He.DefD := ⟨("is_lot_of_tops", none), "is_lot_of_tops", "is_lot_of_tops", defArgs s_is_lot_of_tops, defBody s_is_lot_of_tops, defScope s_is_lot_of_tops, [], []⟩
abbrev s_is_entry_of : Stmt := top 31
def d_is_entry_of : He.DefD := ⟨("is_entry_of", none), "is_entry_of", "is_entry_of", defArgs s_is_entry_of, defBody s_is_entry_of, defScope s_is_entry_of, [], []⟩
abbrev s_is_map_state : Stmt := top 32
def d_is_map_state : He.DefD := ⟨("is_map_state", none), "is_map_state", "is_map_state", defArgs s_is_map_state, defBody s_is_map_state, defScope s_is_map_state, [], []⟩
abbrev s_is_state_value : Stmt := top 33
def d_is_state_value : He.DefD := ⟨("is_state_value", none), "is_state_value", "is_state_value", defArgs s_is_state_value, defBody s_is_state_value, defScope s_is_state_value, [], []⟩
abbrev s_state_as_told : Stmt := top 34
def d_state_as_told : He.DefD := ⟨("state_as_told", none), "state_as_told", "state_as_told", defArgs s_state_as_told, defBody s_state_as_told, defScope s_state_as_told, [], []⟩
abbrev s_want_state_of : Stmt := top 35
def d_want_state_of : He.DefD := ⟨("want_state_of", none), "want_state_of", "want_state_of", defArgs s_want_state_of, defBody s_want_state_of, defScope s_want_state_of, [], []⟩
abbrev s_least_by_kind : Stmt := top 36
def d_least_by_kind : He.DefD := ⟨("least_by_kind", none), "least_by_kind", "least_by_kind", defArgs s_least_by_kind, defBody s_least_by_kind, defScope s_least_by_kind, [], []⟩
abbrev s_is_state : Stmt := top 37
def d_is_state : He.DefD := ⟨("is_state", none), "is_state", "is_state", defArgs s_is_state, defBody s_is_state, defScope s_is_state, [], []⟩
abbrev s_least_state : Stmt := top 38
def d_least_state : He.DefD := ⟨("least_state", none), "least_state", "least_state", defArgs s_least_state, defBody s_least_state, defScope s_least_state, [], []⟩
abbrev s_told_state : Stmt := top 39
def d_told_state : He.DefD := ⟨("told_state", none), "told_state", "told_state", defArgs s_told_state, defBody s_told_state, defScope s_told_state, [], []⟩
abbrev s__law_pot : Stmt := top 41
def d__law_pot : He.DefD := ⟨("_law_pot", none), "_law_pot", "_law_pot", defArgs s__law_pot, defBody s__law_pot, defScope s__law_pot, [], []⟩
abbrev s__law_draw : Stmt := top 42
def d__law_draw : He.DefD := ⟨("_law_draw", none), "_law_draw", "_law_draw", defArgs s__law_draw, defBody s__law_draw, defScope s__law_draw, [], []⟩
abbrev s__law_pick : Stmt := top 43
def d__law_pick : He.DefD := ⟨("_law_pick", none), "_law_pick", "_law_pick", defArgs s__law_pick, defBody s__law_pick, defScope s__law_pick, [], []⟩
abbrev s__law_tables : Stmt := top 44
def d__law_tables : He.DefD := ⟨("_law_tables", none), "_law_tables", "_law_tables", defArgs s__law_tables, defBody s__law_tables, defScope s__law_tables, [], []⟩
abbrev s__law_leaf : Stmt := top 45
def d__law_leaf : He.DefD := ⟨("_law_leaf", none), "_law_leaf", "_law_leaf", defArgs s__law_leaf, defBody s__law_leaf, defScope s__law_leaf, [], []⟩
abbrev s__law_kind : Stmt := top 46
def d__law_kind : He.DefD := ⟨("_law_kind", none), "_law_kind", "_law_kind", defArgs s__law_kind, defBody s__law_kind, defScope s__law_kind, [], []⟩
abbrev s__law_higher : Stmt := top 47
def d__law_higher : He.DefD := ⟨("_law_higher", none), "_law_higher", "_law_higher", defArgs s__law_higher, defBody s__law_higher, defScope s__law_higher, [], []⟩
abbrev s__law_is_free : Stmt := top 48
def d__law_is_free : He.DefD := ⟨("_law_is_free", none), "_law_is_free", "_law_is_free", defArgs s__law_is_free, defBody s__law_is_free, defScope s__law_is_free, [], []⟩
abbrev s__law_least : Stmt := top 49
def d__law_least : He.DefD := ⟨("_law_least", none), "_law_least", "_law_least", defArgs s__law_least, defBody s__law_least, defScope s__law_least, [], []⟩
abbrev s__law_state : Stmt := top 50
def d__law_state : He.DefD := ⟨("_law_state", none), "_law_state", "_law_state", defArgs s__law_state, defBody s__law_state, defScope s__law_state, [], []⟩
abbrev s__law_is_count : Stmt := top 51
def d__law_is_count : He.DefD := ⟨("_law_is_count", none), "_law_is_count", "_law_is_count", defArgs s__law_is_count, defBody s__law_is_count, defScope s__law_is_count, [], []⟩
abbrev s__law_is_name : Stmt := top 52
def d__law_is_name : He.DefD := ⟨("_law_is_name", none), "_law_is_name", "_law_is_name", defArgs s__law_is_name, defBody s__law_is_name, defScope s__law_is_name, [], []⟩
abbrev s__law_is : Stmt := top 53
def d__law_is : He.DefD := ⟨("_law_is", none), "_law_is", "_law_is", defArgs s__law_is, defBody s__law_is, defScope s__law_is, [], []⟩
abbrev s__law_is_lot : Stmt := top 54
def d__law_is_lot : He.DefD := ⟨("_law_is_lot", none), "_law_is_lot", "_law_is_lot", defArgs s__law_is_lot, defBody s__law_is_lot, defScope s__law_is_lot, [], []⟩
abbrev s__law_is_map : Stmt := top 55
def d__law_is_map : He.DefD := ⟨("_law_is_map", none), "_law_is_map", "_law_is_map", defArgs s__law_is_map, defBody s__law_is_map, defScope s__law_is_map, [], []⟩
abbrev s__law_told : Stmt := top 56
def d__law_told : He.DefD := ⟨("_law_told", none), "_law_told", "_law_told", defArgs s__law_told, defBody s__law_told, defScope s__law_told, [], []⟩
abbrev s__law_as_tuples : Stmt := top 57
def d__law_as_tuples : He.DefD := ⟨("_law_as_tuples", none), "_law_as_tuples", "_law_as_tuples", defArgs s__law_as_tuples, defBody s__law_as_tuples, defScope s__law_as_tuples, [], []⟩
abbrev s__law_bent : Stmt := top 58
def d__law_bent : He.DefD := ⟨("_law_bent", none), "_law_bent", "_law_bent", defArgs s__law_bent, defBody s__law_bent, defScope s__law_bent, [], []⟩
abbrev s__law_heard : Stmt := top 59
def d__law_heard : He.DefD := ⟨("_law_heard", none), "_law_heard", "_law_heard", defArgs s__law_heard, defBody s__law_heard, defScope s__law_heard, [], []⟩
abbrev s__law_value_right : Stmt := top 60
def d__law_value_right : He.DefD := ⟨("_law_value_right", none), "_law_value_right", "_law_value_right", defArgs s__law_value_right, defBody s__law_value_right, defScope s__law_value_right, [], []⟩
abbrev s__law_right : Stmt := top 61
def d__law_right : He.DefD := ⟨("_law_right", none), "_law_right", "_law_right", defArgs s__law_right, defBody s__law_right, defScope s__law_right, [], []⟩
abbrev s_law : Stmt := top 62
def d_law : He.DefD := ⟨("law", none), "law", "law", defArgs s_law, defBody s_law, defScope s_law, [], []⟩
def fnL : List He.DefD := [dInit, d_is_integer, d_is_count, d_is_list, d_are_table_rows, d_table_is_join, d_is_name_word, d_highs_of_points, d_is_tie, d_are_ties, d_has_right_sides, d_is_kind_value, d_kind_as_told, d_want_kind, d_is_lot_of_tops, d_is_entry_of, d_is_map_state, d_is_state_value, d_state_as_told, d_want_state_of, d_least_by_kind, d_is_state, d_least_state, d_told_state, d__law_pot, d__law_draw, d__law_pick, d__law_tables, d__law_leaf, d__law_kind, d__law_higher, d__law_is_free, d__law_least, d__law_state, d__law_is_count, d__law_is_name, d__law_is, d__law_is_lot, d__law_is_map, d__law_told, d__law_as_tuples, d__law_bent, d__law_heard, d__law_value_right, d__law_right, d_law]
def faL : List He.Fa := [.glo "is_integer", .glo "is_count", .glo "is_list", .glo "are_table_rows", .glo "table_is_join", .glo "is_name_word", .glo "highs_of_points", .glo "is_tie", .glo "are_ties", .glo "has_right_sides", .glo "is_kind_value", .glo "kind_as_told", .glo "want_kind", .glo "is_lot_of_tops", .glo "is_entry_of", .glo "is_map_state", .glo "is_state_value", .glo "state_as_told", .glo "want_state_of", .glo "least_by_kind", .glo "is_state", .glo "least_state", .glo "told_state", .glo "_law_pot", .glo "_law_draw", .glo "_law_pick", .glo "_law_tables", .glo "_law_leaf", .glo "_law_kind", .glo "_law_higher", .glo "_law_is_free", .glo "_law_least", .glo "_law_state", .glo "_law_is_count", .glo "_law_is_name", .glo "_law_is", .glo "_law_is_lot", .glo "_law_is_map", .glo "_law_told", .glo "_law_as_tuples", .glo "_law_bent", .glo "_law_heard", .glo "_law_value_right", .glo "_law_right", .glo "law", .glo "InvalidState", .glo "InvalidKind", .glo "PartError", .glo "SIDES", .free "isinstance", .free "len", .free "all", .free "any", .free "range", .free "sorted", .free "set", .free "tuple", .free "list", .free "zip", .free "sum", .free "abs", .free "max", .free "divmod", .free "repr", .free "int", .free "bool", .free "str", .int "MOST_TABLE_STATES" 8, .int "MOST_ROW" 20, .int "MOST_POINTS" 6, .int "MOST_TIES" 15, .int "MOST_DEEP" 4, .int "MOST_KINDS" 12, .int "MOST_NAME" 8, .str "LETTERS" "abcdefghijklmnopqrstuvwxyz"]
def tsL : List He.Tab := [(fun K => He.ga K "SIDES", ["map", "pair", "later", "above"])]
/-- the class at C is an own one over ValueError -/
def exB (K : PySem.W.Frag) (C : Addr) : Bool := match K.lookup C with
  | some ⟨.type "type", _, .cls cd, sl⟩ => (match cd.mro, sl.toList with
    | .ref C' :: bm, [_, _, _, _, some (.builtin n), _] => C' == C && (n == "ValueError.__new__" && (!cd.hasDel && (cd.hasDict && PySem.HandSPX.refsVE bm)))
    | _, _ => false)
  | _ => false
def exL (K : PySem.W.Frag) : Bool :=
  exB K (He.ga K "InvalidState") && (decide (PySem.W.findIn K (.ref (He.ga K "InvalidState")) "__setattr__" = some (some (.builtin "object.__setattr__"))) &&
  (decide (PySem.W.subIn K (.ref (He.ga K "InvalidState")) (.type "BaseException") = some true) && (decide (PySem.W.typeIn K (.ref (He.ga K "InvalidState")) = some (.type "type")) &&
  (PySem.W.keepIn K (.ref (He.ga K "InvalidState")) && (xfB K (He.ga K "InvalidState") && (decide (PySem.W.findIn K (.ref (He.ga K "InvalidState")) "value" = some none) &&
  (decide (PySem.W.exmOne K (.ref (He.ga K "InvalidState")) (.ref (He.ga K "InvalidState")) = some true) && (decide (PySem.W.findIn K (.ref (He.ga K "InvalidState")) "__init__" = some (some (.ref (He.ma K (He.ga K "InvalidState") "__init__")))) &&
  (decide (PySem.W.typeIn K (.ref (He.ma K (He.ga K "InvalidState") "__init__")) = some (.type "function")) &&
  (He.valsB K (He.ga K "SIDES") [("map", .int 1), ("pair", .int 2), ("later", .int 2), ("above", .int 2)] &&
  ["count", "row", "tops", "table"].all fun x => He.eqO (PySem.W.nsIn K (He.ga K "SIDES") x) (some none)))))))))))
abbrev RR : PySem.W.OpenRow := PySem.W.OpenLaw.row PySem.Challenge.rw_partsmet_k13_whole_states_of_kinds
abbrev hk : PySem.W.Hook := He.hookX 5 faL fnL tsL [] exL
def obL (s : PySem.W.SharedT) : He.AlX := He.obsX 5 faL fnL tsL [] exL (HandSHeadRun.getT s)
theorem obL_eq (s : PySem.W.SharedT) : obL s = hk.obs s.abs := He.obsX_eq (HandSHeadRun.getT_eq s)
def loA : List PySem.Str := [("PartError" : PySem.Str), ("InvalidKind" : PySem.Str), ("InvalidState" : PySem.Str), ("is_integer" : PySem.Str), ("is_count" : PySem.Str), ("is_list" : PySem.Str), ("MOST_TABLE_STATES" : PySem.Str), ("are_table_rows" : PySem.Str), ("table_is_join" : PySem.Str), ("MOST_ROW" : PySem.Str), ("MOST_POINTS" : PySem.Str), ("MOST_TIES" : PySem.Str), ("MOST_DEEP" : PySem.Str), ("MOST_KINDS" : PySem.Str), ("MOST_NAME" : PySem.Str), ("LETTERS" : PySem.Str), ("SIDES" : PySem.Str), ("is_name_word" : PySem.Str), ("highs_of_points" : PySem.Str), ("is_tie" : PySem.Str), ("are_ties" : PySem.Str), ("has_right_sides" : PySem.Str), ("is_kind_value" : PySem.Str), ("kind_as_told" : PySem.Str), ("want_kind" : PySem.Str), ("is_lot_of_tops" : PySem.Str), ("is_entry_of" : PySem.Str), ("is_map_state" : PySem.Str), ("is_state_value" : PySem.Str), ("state_as_told" : PySem.Str), ("want_state_of" : PySem.Str), ("least_by_kind" : PySem.Str), ("is_state" : PySem.Str), ("least_state" : PySem.Str), ("told_state" : PySem.Str)]
def loB : List PySem.Str := [("_law_pot" : PySem.Str), ("_law_draw" : PySem.Str), ("_law_pick" : PySem.Str), ("_law_tables" : PySem.Str), ("_law_leaf" : PySem.Str), ("_law_kind" : PySem.Str), ("_law_higher" : PySem.Str), ("_law_is_free" : PySem.Str), ("_law_least" : PySem.Str), ("_law_state" : PySem.Str), ("_law_is_count" : PySem.Str), ("_law_is_name" : PySem.Str), ("_law_is" : PySem.Str), ("_law_is_lot" : PySem.Str), ("_law_is_map" : PySem.Str), ("_law_told" : PySem.Str), ("_law_as_tuples" : PySem.Str), ("_law_bent" : PySem.Str), ("_law_heard" : PySem.Str), ("_law_value_right" : PySem.Str), ("_law_right" : PySem.Str)]
def loL : List PySem.Str := loA ++ loB
theorem runF (w : PySem.World) : HandSHeadRun.RunEq RR (PySem.W.view RR.prog [62]) hk obL 3000 loL (w.withFollow "special-get-raises" false) := by
  intro os
  kernel_rfl
theorem runT (w : PySem.World) : HandSHeadRun.RunEq RR (PySem.W.view RR.prog [62]) hk obL 3000 loL (w.withFollow "special-get-raises" true) := by
  intro os
  kernel_rfl
theorem runL (w : PySem.World) : HandSHeadRun.RunEq RR (PySem.W.view RR.prog [62]) hk obL 3000 loL w :=
  PySem.W.byRow2 "special-get-raises" (P := fun w => HandSHeadRun.RunEq RR (PySem.W.view RR.prog [62]) hk obL 3000 loL w) runF runT w
end Pm
/-! What the module's names stand for. -/
namespace Pm
open PySem PySem.Spec PyProof.Rows L2
theorem bt_isinstance : bootBuiltins "isinstance" = some (.builtin "isinstance") := by decide +kernel
theorem bt_len : bootBuiltins "len" = some (.builtin "len") := by decide +kernel
theorem bt_all : bootBuiltins "all" = some (.builtin "all") := by decide +kernel
theorem bt_any : bootBuiltins "any" = some (.builtin "any") := by decide +kernel
theorem bt_range : bootBuiltins "range" = some (.type "range") := by decide +kernel
theorem bt_sorted : bootBuiltins "sorted" = some (.builtin "sorted") := by decide +kernel
theorem bt_set : bootBuiltins "set" = some (.type "set") := by decide +kernel
theorem bt_tuple : bootBuiltins "tuple" = some (.type "tuple") := by decide +kernel
theorem bt_list : bootBuiltins "list" = some (.type "list") := by decide +kernel
theorem bt_zip : bootBuiltins "zip" = some (.type "zip") := by decide +kernel
theorem bt_sum : bootBuiltins "sum" = some (.builtin "sum") := by decide +kernel
theorem bt_abs : bootBuiltins "abs" = some (.builtin "abs") := by decide +kernel
theorem bt_max : bootBuiltins "max" = some (.builtin "max") := by decide +kernel
theorem bt_divmod : bootBuiltins "divmod" = some (.builtin "divmod") := by decide +kernel
theorem bt_repr : bootBuiltins "repr" = some (.builtin "repr") := by decide +kernel
theorem bt_int : bootBuiltins "int" = some (.type "int") := by decide +kernel
theorem bt_bool : bootBuiltins "bool" = some (.type "bool") := by decide +kernel
theorem bt_str : bootBuiltins "str" = some (.type "str") := by decide +kernel
structure Txt (K : PySem.W.Frag) (mg : Str → Option Value) (w : World) (aS : Addr) : Prop where
  b_isinstance : mg "isinstance" = none
  b_len : mg "len" = none
  b_all : mg "all" = none
  b_any : mg "any" = none
  b_range : mg "range" = none
  b_sorted : mg "sorted" = none
  b_set : mg "set" = none
  b_tuple : mg "tuple" = none
  b_list : mg "list" = none
  b_zip : mg "zip" = none
  b_sum : mg "sum" = none
  b_abs : mg "abs" = none
  b_max : mg "max" = none
  b_divmod : mg "divmod" = none
  b_repr : mg "repr" = none
  b_int : mg "int" = none
  b_bool : mg "bool" = none
  b_str : mg "str" = none
  MOST_TABLE_STATES : ∃ t, mg "MOST_TABLE_STATES" = some (.int 8 t)
  MOST_ROW : ∃ t, mg "MOST_ROW" = some (.int 20 t)
  MOST_POINTS : ∃ t, mg "MOST_POINTS" = some (.int 6 t)
  MOST_TIES : ∃ t, mg "MOST_TIES" = some (.int 15 t)
  MOST_DEEP : ∃ t, mg "MOST_DEEP" = some (.int 4 t)
  MOST_KINDS : ∃ t, mg "MOST_KINDS" = some (.int 12 t)
  MOST_NAME : ∃ t, mg "MOST_NAME" = some (.int 8 t)
  LETTERS : ∃ t, mg "LETTERS" = some (.str letters t)
  SIDES : mg "SIDES" = some (.ref aS)
  kd : ∃ es n, KDict K w aS es n
  sd_map : ∃ u, PySem.W.nsIn K aS "map" = some (some u) ∧ RelV (.int 1) u
  sd_pair : ∃ u, PySem.W.nsIn K aS "pair" = some (some u) ∧ RelV (.int 2) u
  sd_later : ∃ u, PySem.W.nsIn K aS "later" = some (some u) ∧ RelV (.int 2) u
  sd_above : ∃ u, PySem.W.nsIn K aS "above" = some (some u) ∧ RelV (.int 2) u
  sd_count : PySem.W.nsIn K aS "count" = some none
  sd_row : PySem.W.nsIn K aS "row" = some none
  sd_tops : PySem.W.nsIn K aS "tops" = some none
  sd_table : PySem.W.nsIn K aS "table" = some none
section
variable {X : Cx} {x : Str} {pos : Pos}
theorem pe_gint {i : Int} (hg : Gl X x) (h : ∃ t, X.mg x = some (.int i t)) (hd : (x == ("__debug__" : Str)) = false := by decide) : PE X (.Name x pos) (tC (.int i)) := by
  obtain ⟨t, h⟩ := h
  exact pe_glob hg h ⟨t, rfl⟩ hd
theorem pe_gstr {z : Str} (hg : Gl X x) (h : ∃ t, X.mg x = some (.str z t)) (hd : (x == ("__debug__" : Str)) = false := by decide) : PE X (.Name x pos) (tC (.str z)) := by
  obtain ⟨t, h⟩ := h
  exact pe_glob hg h ⟨t, rfl⟩ hd
end
end Pm
namespace Pm
open PySem PySem.Spec PyProof.Rows L2
section
variable {P : Program} {w : World} {K : PySem.W.Frag} {mg : Str → Option Value} {base : Heap} {aS : Addr}

/-- one argument, two -/
def p1 (ok : PyData → Prop) (ds : List PyData) : Prop := ∃ d, ds = [d] ∧ ok d
def p2 (ok : PyData → PyData → Prop) (ds : List PyData) : Prop := ∃ d e, ds = [d, e] ∧ ok d e
def p3 (ok : PyData → PyData → PyData → Prop) (ds : List PyData) : Prop := ∃ d e c, ds = [d, e, c] ∧ ok d e c
def f1 (f : PyData → PyData) : List PyData → PyData
  | [d] => f d
  | _ => .none
def f2 (f : PyData → PyData → PyData) : List PyData → PyData
  | [d, e] => f d e
  | _ => .none
def f3 (f : PyData → PyData → PyData → PyData) : List PyData → PyData
  | [d, e, c] => f d e c
  | _ => .none
theorem p1_len {ok : PyData → Prop} {ds : List PyData} (h : p1 ok ds) : ds.length = 1 := by obtain ⟨d, rfl, _⟩ := h; rfl
theorem p2_len {ok : PyData → PyData → Prop} {ds : List PyData} (h : p2 ok ds) : ds.length = 2 := by obtain ⟨d, e, rfl, _⟩ := h; rfl
theorem p3_len {ok : PyData → PyData → PyData → Prop} {ds : List PyData} (h : p3 ok ds) : ds.length = 3 := by obtain ⟨d, e, c, rfl, _⟩ := h; rfl
abbrev nD1 (d : PyData) : Prop := noDict d = true
def isNum : PyData → Bool
  | .int _ => true
  | _ => false
abbrev spInt : Sp := spF (p1 nD1) (f1 fun d => .bool (isNum d))
abbrev spCnt : Sp := spF (p1 nD1) (f1 fun d => .bool (isCnt d))
abbrev spIsList : Sp := spF (p1 nD1) (f1 fun d => .bool ((seqOf d).isSome))
/-- a text of a few signs, or no text -/
def shortS : PyData → Prop
  | .str s => s.length ≤ 1000
  | .dict _ => False
  | _ => True
theorem shortS_nD : ∀ {d : PyData}, shortS d → noDict d = true
  | .none, _ => rfl
  | .bool _, _ => rfl
  | .int _, _ => rfl
  | .str _, _ => rfl
  | .list _, _ => rfl
  | .tuple _, _ => rfl
  | .dict _, h => h.elim
abbrev spName : Sp := spF (p1 shortS) (f1 fun d => .bool (isName d))
theorem Sm.short {n m : Nat} {d : PyData} (h : Sm n m d) : shortS d := by
  cases d with
  | str s => exact Nat.le_trans (okStr_len s (by simpa [fine] using h.f)) (by decide)
  | dict _ => exact absurd h.f (by simp [fine])
  | _ => trivial
abbrev N_is_integer : List Str := ["value"]
theorem sc_is_integer : FnScope N_is_integer ["value"] (defScope s_is_integer) := ⟨rfl, rfl, rfl, by decide +kernel, rfl, by decide +kernel, by decide +kernel⟩
theorem ok_is_integer  (T : Txt K mg w aS) (F : Stands K mg "is_integer" s_is_integer ["value"])   : Cal P w K mg base "is_integer" 1 ["value"] (spF (p1 nD1) (f1 fun d => .bool (isNum d))) := by
  have nd := sc_is_integer.nd
  refine F.pure sc_is_integer (fun ds h => ?_) fun f cdv A outer s H E hr => ⟨_, (pss_one (ps_ret (pe_and (pe_callB (k_isi (K := K) rfl) (by rfl) T.b_isinstance bt_isinstance (pa_cons (pv 0) (pa_cons (pe_bltn (v := .ty "int") (by rfl) T.b_int bt_int rfl) pa_nil))) (pe_one (pe_not (pe_callB (k_isi (K := K) rfl) (by rfl) T.b_isinstance bt_isinstance (pa_cons (pv 0) (pa_cons (pe_bltn (v := .ty "bool") (by rfl) T.b_bool bt_bool rfl) pa_nil)))))))), fun ds h => ?_⟩
  · exact p1_len h
  · obtain ⟨d, rfl, hd⟩ := h
    have e : (isInt d && !isBl d) = isNum d := by cases d <;> rfl
    exact (sv_ret (ev_and (ev_isi (ev_var rfl) (kit_int hd)) fun _ => ev_not (ev_isi (ev_var rfl) (kit_bool hd)))).is (by rw [e]; rfl)
abbrev N_is_count : List Str := ["value"]
theorem sc_is_count : FnScope N_is_count ["value"] (defScope s_is_count) := ⟨rfl, rfl, rfl, by decide +kernel, rfl, by decide +kernel, by decide +kernel⟩
theorem ok_is_count  (T : Txt K mg w aS) (F : Stands K mg "is_count" s_is_count ["value"]) (C_is_integer : Cal P w K mg base "is_integer" 1 ["value"] (spInt))  : Cal P w K mg base "is_count" 2 ["value"] (spF (p1 nD1) (f1 fun d => .bool (isCnt d))) := by
  have nd := sc_is_count.nd
  refine F.pure sc_is_count (fun ds h => ?_) fun f cdv A outer s H E hr => ⟨_, (pss_one (ps_ret (pe_and (pe_cal C_is_integer hr (by omega) (by rfl) (pa_cons (pv 0) pa_nil)) (pe_one (pe_cmpR op_ge (pv 0) pe_int (nomark _)))))), fun ds h => ?_⟩
  · exact p1_len h
  · obtain ⟨d, rfl, hd⟩ := h
    refine sv_ret ?_
    by_cases hi : isNum d = true
    · obtain ⟨i, rfl⟩ : ∃ i, d = .int i := by cases d <;> first | exact ⟨_, rfl⟩ | cases hi
      exact ev_and (b := true) (ev_callIs (ea_one (ev_var rfl)) ⟨_, rfl, hd⟩ rfl) fun _ => ev_op (ev_var rfl) ev_int rv_B
    · have e : isCnt d = (isNum d && false) := by cases d <;> first | rfl | exact absurd rfl hi
      show EvD _ _ (.bool (isCnt d))
      rw [e]
      exact ev_and (ev_callIs (ea_one (ev_var rfl)) ⟨_, rfl, hd⟩ rfl) fun z => absurd z hi
abbrev N_is_list : List Str := ["value"]
theorem sc_is_list : FnScope N_is_list ["value"] (defScope s_is_list) := ⟨rfl, rfl, rfl, by decide +kernel, rfl, by decide +kernel, by decide +kernel⟩
theorem ok_is_list  (T : Txt K mg w aS) (F : Stands K mg "is_list" s_is_list ["value"])   : Cal P w K mg base "is_list" 1 ["value"] (spF (p1 nD1) (f1 fun d => .bool ((seqOf d).isSome))) := by
  have nd := sc_is_list.nd
  refine F.pure sc_is_list (fun ds h => ?_) fun f cdv A outer s H E hr => ⟨_, (pss_one (ps_ret (pe_callB (k_isiT (K := K) rfl) (by rfl) T.b_isinstance bt_isinstance (pa_cons (pv 0) (pa_cons (pe_tup (pa_cons (pe_bltn (v := .ty "list") (by rfl) T.b_list bt_list rfl) (pa_cons (pe_bltn (v := .ty "tuple") (by rfl) T.b_tuple bt_tuple rfl) pa_nil))) pa_nil))))), fun ds h => ?_⟩
  · exact p1_len h
  · obtain ⟨d, rfl, hd⟩ := h
    have e : (isLst d || isTup d) = (seqOf d).isSome := by cases d <;> rfl
    exact (sv_ret (ev_isi2 (ev_var rfl) (kit_lst hd) (kit_tup hd))).is (by rw [e]; rfl)
theorem all_map_id {α : Type} (l : List α) (p : α → Bool) : (l.map p).all id = l.all p := by rw [List.all_map]; rfl
theorem any_map_id {α : Type} (l : List α) (p : α → Bool) : (l.map p).any id = l.any p := by rw [List.any_map]; rfl
abbrev N_is_name_word : List Str := ["value", "sign"]
theorem sc_is_name_word : FnScope N_is_name_word ["value"] (defScope s_is_name_word) := ⟨rfl, rfl, rfl, by decide +kernel, rfl, by decide +kernel, by decide +kernel⟩
theorem ok_is_name_word  (T : Txt K mg w aS) (F : Stands K mg "is_name_word" s_is_name_word ["value"])   : Cal P w K mg base "is_name_word" 1 ["value"] (spF (p1 shortS) (f1 fun d => .bool (isName d))) := by
  have nd := sc_is_name_word.nd
  refine F.pure sc_is_name_word (fun ds h => ?_) fun f cdv A outer s H E hr => ⟨_, (pss_one (ps_ret (pe_and (pe_callB (k_isi (K := K) rfl) (by rfl) T.b_isinstance bt_isinstance (pa_cons (pv 0) (pa_cons (pe_bltn (v := .ty "str") (by rfl) T.b_str bt_str rfl) pa_nil))) (pe_and (pe_chain op_le op_le pe_int (pe_callB (k_len (K := K) rfl) (by rfl) T.b_len bt_len (pa_cons (pv 0) pa_nil)) (pe_gint (by rfl) T.MOST_NAME)) (pe_one (pe_callB (k_all (K := K) rfl rfl) (by rfl) T.b_all bt_all (pa_cons (pe_lc (own := [("sign", 1)]) (by rfl) nd (pi_str (pv 0)) (blkOk_by (N := N_is_name_word) (sc := (defScope s_is_name_word)) (own := [("sign", 1)]) (by decide +kernel)) (fun _ _ _ _ _ => (pg_name (i := 1) nd rfl (by first | exact Or.inl rfl | exact Or.inr rfl))) (fun _ _ _ _ _ => pts_nil) (fun _ _ _ _ _ => (pe_cmpR op_in_sign (pv 1) (pe_gstr (by rfl) T.LETTERS) (by rfl)))) pa_nil))))))), fun ds h => ?_⟩
  · exact p1_len h
  · obtain ⟨d, rfl, hd⟩ := h
    refine sv_ret ?_
    cases d with
    | str s =>
      have hs : s.length ≤ 1000 := hd
      have hc : s.cps.toList.length ≤ 1000 := by rw [Array.length_toList]; exact hs
      refine (ev_and (b := true) (ev_isi (ev_var rfl) (kit_str rfl)) fun _ => ev_and (ev_chain ev_int (ev_cb (ea_one (ev_var rfl)) (rc_lenS (by omega))) ev_int rv_B rv_B) fun _ =>
        ev_cb (ea_one (EvN.toD (en_lc1 s.cps.toList (fun c => .str ⟨#[c]⟩) (fun c => .bool (decide (c ∈ letters.cps.toList))) (fun c => _) (is_str (ev_var rfl)) (by omega) (fun _ _ => gt_name (List.mem_singleton.mpr rfl)) (fun _ _ => ev_op (ev_var rfl) ev_str rv_sign))))
          (rc_all (s.cps.toList.map fun c => decide (c ∈ letters.cps.toList)) (by rw [List.map_map]; rfl))).is ?_
      rw [all_map_id, Bool.true_and]; rfl
    | dict _ => exact hd.elim
    | _ => exact ev_and (b := false) (b' := false) (ev_isi (ev_var rfl) (kit_str rfl)) fun z => nomatch z
abbrev N__law_is_count : List Str := ["_law_value"]
theorem sc__law_is_count : FnScope N__law_is_count ["_law_value"] (defScope s__law_is_count) := ⟨rfl, rfl, rfl, by decide +kernel, rfl, by decide +kernel, by decide +kernel⟩
theorem ok__law_is_count  (T : Txt K mg w aS) (F : Stands K mg "_law_is_count" s__law_is_count ["_law_value"])   : Cal P w K mg base "_law_is_count" 1 ["_law_value"] (spF (p1 nD1) (f1 fun d => .bool (isCnt d))) := by
  have nd := sc__law_is_count.nd
  refine F.pure sc__law_is_count (fun ds h => ?_) fun f cdv A outer s H E hr => ⟨_, (pss_one (ps_ret (pe_and (pe_callB (k_isi (K := K) rfl) (by rfl) T.b_isinstance bt_isinstance (pa_cons (pv 0) (pa_cons (pe_bltn (v := .ty "int") (by rfl) T.b_int bt_int rfl) pa_nil))) (pe_and (pe_not (pe_callB (k_isi (K := K) rfl) (by rfl) T.b_isinstance bt_isinstance (pa_cons (pv 0) (pa_cons (pe_bltn (v := .ty "bool") (by rfl) T.b_bool bt_bool rfl) pa_nil)))) (pe_one (pe_cmpR op_ge (pv 0) pe_int (nomark _))))))), fun ds h => ?_⟩
  · exact p1_len h
  · obtain ⟨d, rfl, hd⟩ := h
    refine sv_ret ?_
    by_cases hi : isNum d = true
    · obtain ⟨i, rfl⟩ : ∃ i, d = .int i := by cases d <;> first | exact ⟨_, rfl⟩ | cases hi
      exact ev_and (b := true) (ev_isi (ev_var rfl) (kit_int hd)) fun _ => ev_and (b := true) (ev_not (ev_isi (ev_var rfl) (kit_bool hd))) fun _ => ev_op (ev_var rfl) ev_int rv_B
    · have e : isCnt d = (isInt d && (!isBl d && false)) := by cases d <;> first | rfl | exact absurd rfl hi
      show EvD _ _ (.bool (isCnt d))
      rw [e]
      refine ev_and (ev_isi (ev_var rfl) (kit_int hd)) fun z => ev_and (ev_not (ev_isi (ev_var rfl) (kit_bool hd))) fun z2 => absurd ?_ hi
      cases d <;> simp_all [isInt, isBl, isNum]
theorem eqv_nil : ∀ ds : List PyData, PyData.eqv (.list ds) (.list []) = ds.isEmpty
  | [] => by simp [PyData.eqv, PyData.eqvAll]
  | _ :: _ => by simp [PyData.eqv, PyData.eqvAll]
theorem filter_empty {α β : Type} (l : List α) (p : α → Bool) (g : α → β) : ((l.filter p).map g).isEmpty = l.all fun x => !p x := by
  induction l with
  | nil => rfl
  | cons a r ih =>
    rw [List.filter_cons, List.all_cons]
    cases h : p a
    · rw [if_neg (by simp)]; simpa using ih
    · rw [if_pos rfl]; simp
theorem shaped_nil : SeqAt.shaped (.list []) = true := by decide +kernel
theorem canLayAll_of : ∀ {ds : List PyData}, (∀ d ∈ ds, d.canLay0 = true) → PyData.canLayAll0 ds = true
  | [], _ => by simp [PyData.canLayAll0]
  | d :: ds, h => by simp only [PyData.canLayAll0, h d List.mem_cons_self, canLayAll_of (ds := ds) fun e m => h e (List.mem_cons_of_mem _ m), Bool.and_self]
theorem shaped_list {ds : List PyData} {n : Nat} (h : ∀ d ∈ ds, d.canLay0 = true ∧ d.depth ≤ n) (hn : n ≤ 63) : SeqAt.shaped (.list ds) = true := by
  unfold SeqAt.shaped
  have h1 := depA_le (ds := ds) (n := n) fun d m => (h d m).2
  rw [show PyData.canLay0 (.list ds) = true by simp only [PyData.canLay0]; exact canLayAll_of fun d m => (h d m).1, Bool.true_and]
  exact decide_eq_true (by simp only [PyData.depth]; omega)
abbrev N__law_is_name : List Str := ["_law_value", "_law_sign"]
theorem sc__law_is_name : FnScope N__law_is_name ["_law_value"] (defScope s__law_is_name) := ⟨rfl, rfl, rfl, by decide +kernel, rfl, by decide +kernel, by decide +kernel⟩
theorem ok__law_is_name  (T : Txt K mg w aS) (F : Stands K mg "_law_is_name" s__law_is_name ["_law_value"])   : Cal P w K mg base "_law_is_name" 1 ["_law_value"] (spF (p1 fun d => shortS d ∧ d.canLay0 = true) (f1 fun d => .bool (isName d))) := by
  have nd := sc__law_is_name.nd
  refine F.pure sc__law_is_name (fun ds h => ?_) fun f cdv A outer s H E hr => ⟨_, (pss_cons (ps_if (PW.pt (pw_or (pt_not (pt_val (pe_callB (k_isi (K := K) rfl) (by rfl) T.b_isinstance bt_isinstance (pa_cons (pv 0) (pa_cons (pe_bltn (v := .ty "str") (by rfl) T.b_str bt_str rfl) pa_nil))))) (pw_or1 (pt_not (pt_chain op_le op_le pe_int (pe_callB (k_len (K := K) rfl) (by rfl) T.b_len bt_len (pa_cons (pv 0) pa_nil)) pe_int))))) (pss_one (ps_ret pe_bl)) pss_nil)
        (pss_one (ps_ret (pe_cmpR (k_eqD (K := K) rfl hr.units) (pe_lc (own := [("_law_sign", 1)]) (by rfl) nd (pi_str (pv 0)) (blkOk_by (N := N__law_is_name) (sc := (defScope s__law_is_name)) (own := [("_law_sign", 1)]) (by decide +kernel)) (fun _ _ _ _ _ => (pg_name (i := 1) nd rfl (by first | exact Or.inl rfl | exact Or.inr rfl))) (fun _ _ _ _ _ => (pts_one (pt_cmpR op_notIn_sign (pv 1) pe_str (by rfl)))) (fun _ _ _ _ _ => (pv 1))) (pe_lst pa_nil) (nomark _))))), fun ds h => ?_⟩
  · exact p1_len h
  · obtain ⟨d, rfl, hd, hl⟩ := h
    cases d with
    | str s =>
      have hs : s.length ≤ 1000 := hd
      have hc : s.cps.toList.length ≤ 1000 := by rw [Array.length_toList]; exact hs
      have hok : PyData.strOk s = true := by simpa [PyData.canLay0] using hl
      show SvO _ _ (.ret (.bool (nameOk s)))
      unfold nameOk
      cases hn : (decide (1 ≤ (s.length : Int)) && decide ((s.length : Int) ≤ 8)) with
      | false =>
        rw [Bool.false_and]
        refine sv_whenT (et_orF (et_notT (et_B (ev_isi (ev_var rfl) (kit_str rfl)))) ((et_not (et_chain ev_int (ev_cb (ea_one (ev_var rfl)) (rc_lenS (by omega))) ev_int rv_B rv_B)).is ?_)) (sv_ret ev_bl)
        exact congrArg (! ·) hn
      | true =>
        rw [Bool.true_and]
        refine sv_whenF (et_orF (et_notT (et_B (ev_isi (ev_var rfl) (kit_str rfl)))) ((et_not (et_chain ev_int (ev_cb (ea_one (ev_var rfl)) (rc_lenS (by omega))) ev_int rv_B rv_B)).is ?_)) (sv_ret ((ev_op
          (EvN.toD (en_lc s.cps.toList (fun c => .str ⟨#[c]⟩) (fun c => !decide (c ∈ letters.cps.toList)) (fun c => .str ⟨#[c]⟩) (fun c => _) (is_str (ev_var rfl)) (by omega) (fun _ _ => gt_name (List.mem_singleton.mpr rfl)) (fun _ _ => et_test (ev_op (ev_var rfl) ev_str rv_nsign)) fun _ _ _ => ev_var rfl))
          (EvN.toD (en_lst ea_nil (by decide))) (rv_eqD (shaped_list (n := 0) ?_ (by decide)) shaped_nil)).is ?_))
        · exact congrArg (! ·) hn
        · intro e me
          obtain ⟨c, mc, rfl⟩ := List.mem_map.mp me
          refine ⟨?_, by simp [PyData.depth]⟩
          have m1 := (List.mem_filter.mp mc).1
          have h2 : c < 0x110000 := by
            unfold PyData.strOk at hok
            rw [Array.all_eq_true'] at hok
            exact of_decide_eq_true (hok c (by simpa using m1))
          simp only [PyData.canLay0]
          unfold PyData.strOk
          simpa using h2
        · rw [eqv_nil, filter_empty]; simp
    | dict _ => exact hd.elim
    | _ => exact sv_whenT (et_orT (et_notF (et_B (ev_isi (ev_var rfl) (kit_str rfl))))) (sv_ret ev_bl)
end
end Pm
namespace Pm
open PySem PySem.Spec PyProof.Rows L2
section
variable {P : Program} {w : World} {K : PySem.W.Frag} {mg : Str → Option Value} {base : Heap} {aS : Addr}

def at2 (rows : List (List Nat)) (a b : Nat) : Nat := (rows.getD a []).getD b 0
theorem tab_ok : ∀ rows ∈ okTabs, (rows.length ≤ 8 ∧ 1 ≤ rows.length) ∧ (∀ r ∈ rows, r.length = rows.length ∧ ∀ x ∈ r, x < rows.length) ∧ ∀ a ∈ List.range rows.length, (at2 rows 0 a = a ∧ at2 rows a a = a) ∧ ∀ b ∈ List.range rows.length, (at2 rows a b = at2 rows b a ∧ at2 rows a b < rows.length) ∧
    ∀ c ∈ List.range rows.length, at2 rows (at2 rows a b) c = at2 rows a (at2 rows b c) := by decide +kernel
theorem rows_at {rows : List (List Nat)} {a : Nat} (h : a < rows.length) : (rows.map rowD)[a]? = some (rowD (rows.getD a [])) := by
  rw [List.getElem?_map, List.getD_eq_getElem?_getD, List.getElem?_eq_getElem h]; rfl
theorem row_at {r : List Nat} {b : Nat} (h : b < r.length) : (r.map nD)[b]? = some (nD (r.getD b 0)) := by
  rw [List.getElem?_map, List.getD_eq_getElem?_getD, List.getElem?_eq_getElem h]; rfl
theorem rows_len {rows : List (List Nat)} (ht : rows ∈ okTabs) {a : Nat} (h : a < rows.length) : (rows.getD a []).length = rows.length := by
  rw [List.getD_eq_getElem?_getD, List.getElem?_eq_getElem h]
  exact ((tab_ok rows ht).2.1 _ (List.getElem_mem h)).1
theorem ev_row {ρ : Rho} {t0 ta : TE} {rows : List (List Nat)} {a : Nat} (h0 : EvD t0 ρ (rowsD rows)) (h1 : EvD ta ρ (nD a)) (ha : a < rows.length) : EvD (tOp (rIx K) t0 ta) ρ (rowD (rows.getD a [])) := ev_op h0 h1 (rv_ixL (rows_at ha))
theorem ev_cell {ρ : Rho} {t0 ta tb : TE} {rows : List (List Nat)} {a b : Nat} (ht : rows ∈ okTabs) (h0 : EvD t0 ρ (rowsD rows)) (h1 : EvD ta ρ (nD a)) (h2 : EvD tb ρ (nD b)) (ha : a < rows.length) (hb : b < rows.length) : EvD (tOp (rIx K) (tOp (rIx K) t0 ta) tb) ρ (nD (at2 rows a b)) :=
  ev_op (ev_row h0 h1 ha) h2 (rv_ixL (row_at (by rw [rows_len ht ha]; exact hb)))
theorem ne_same {i j : Nat} (h : i = j) : (!decide ((i : Int) = (j : Int))) = false := by rw [h]; simp
abbrev pTab : List PyData → Prop := p1 fun d => ∃ rows ∈ okTabs, d = rowsD rows
abbrev spTab : Sp := spF pTab fun _ => .bool true
abbrev N_table_is_join : List Str := ["rows", "size", "one", "other", "both", "third"]
theorem sc_table_is_join : FnScope N_table_is_join ["rows"] (defScope s_table_is_join) := ⟨rfl, rfl, rfl, by decide +kernel, rfl, by decide +kernel, by decide +kernel⟩
theorem ok_table_is_join  (T : Txt K mg w aS) (F : Stands K mg "table_is_join" s_table_is_join ["rows"])   : Cal P w K mg base "table_is_join" 1 ["rows"] (spF pTab (fun _ => .bool true)) := by
  have nd := sc_table_is_join.nd
  refine F.pure sc_table_is_join (fun ds h => ?_) fun f cdv A outer s H E hr => ⟨_, (pss_cons (ps_set (i := 1) nd rfl (by first | exact Or.inl rfl | exact Or.inr rfl) (pe_callB (k_len (K := K) rfl) (by rfl) T.b_len bt_len (pa_cons (pv 0) pa_nil)))
        (pss_cons (ps_for PassesOwn.never rfl (pi_range1 (by rfl) T.b_range (pa_cons (pv 1) pa_nil)) (pg_name (i := 2) nd rfl (by first | exact Or.inl rfl | exact Or.inr rfl)) (pss_cons (ps_if (PW.pt (pw_or (pt_cmpR op_ne (pe_ix (k_ix (K := K) rfl) (pe_ix (k_ix (K := K) rfl) (pv 0) pe_int (fun _ _ => rfl)) (pv 2) (fun _ _ => rfl)) (pv 2) (nomark _)) (pw_or1 (pt_cmpR op_ne (pe_ix (k_ix (K := K) rfl) (pe_ix (k_ix (K := K) rfl) (pv 0) (pv 2) (fun _ _ => rfl)) (pv 2) (fun _ _ => rfl)) (pv 2) (nomark _))))) (pss_one (ps_ret pe_bl)) pss_nil)
        (pss_one (ps_for PassesOwn.never rfl (pi_range1 (by rfl) T.b_range (pa_cons (pv 1) pa_nil)) (pg_name (i := 3) nd rfl (by first | exact Or.inl rfl | exact Or.inr rfl)) (pss_cons (ps_if (pt_cmpR op_ne (pe_ix (k_ix (K := K) rfl) (pe_ix (k_ix (K := K) rfl) (pv 0) (pv 2) (fun _ _ => rfl)) (pv 3) (fun _ _ => rfl)) (pe_ix (k_ix (K := K) rfl) (pe_ix (k_ix (K := K) rfl) (pv 0) (pv 3) (fun _ _ => rfl)) (pv 2) (fun _ _ => rfl)) (nomark _)) (pss_one (ps_ret pe_bl)) pss_nil)
        (pss_cons (ps_set (i := 4) nd rfl (by first | exact Or.inl rfl | exact Or.inr rfl) (pe_ix (k_ix (K := K) rfl) (pv 0) (pe_ix (k_ix (K := K) rfl) (pe_ix (k_ix (K := K) rfl) (pv 0) (pv 2) (fun _ _ => rfl)) (pv 3) (fun _ _ => rfl)) (fun _ _ => rfl)))
        (pss_one (ps_if (pt_val (pe_callB (k_any (K := K) rfl rfl) (by rfl) T.b_any bt_any (pa_cons (pe_lc (own := [("third", 5)]) (by rfl) nd (pi_range1 (by rfl) T.b_range (pa_cons (pv 1) pa_nil)) (blkOk_by (N := N_table_is_join) (sc := (defScope s_table_is_join)) (own := [("third", 5)]) (by decide +kernel)) (fun _ _ _ _ _ => (pg_name (i := 5) nd rfl (by first | exact Or.inl rfl | exact Or.inr rfl))) (fun _ _ _ _ _ => pts_nil) (fun _ _ _ _ _ => (pe_cmpR op_ne (pe_ix (k_ix (K := K) rfl) (pv 4) (pv 5) (fun _ _ => rfl)) (pe_ix (k_ix (K := K) rfl) (pe_ix (k_ix (K := K) rfl) (pv 0) (pv 2) (fun _ _ => rfl)) (pe_ix (k_ix (K := K) rfl) (pe_ix (k_ix (K := K) rfl) (pv 0) (pv 3) (fun _ _ => rfl)) (pv 5) (fun _ _ => rfl)) (fun _ _ => rfl)) (nomark _)))) pa_nil))) (pss_one (ps_ret pe_bl)) pss_nil))))))))
        (pss_one (ps_ret pe_bl)))), fun ds h => ?_⟩
  · exact p1_len h
  · obtain ⟨d, rfl, rows, ht, rfl⟩ := h
    obtain ⟨⟨h8, hp⟩, hrow, G⟩ := tab_ok rows ht
    have L : (rows.map rowD).length = rows.length := List.length_map ..
    refine sv_asg (ev_cb (ea_one (ev_var rfl)) rc_lenL) ?_
    rw [L]
    refine sv_seq (sv_forL (vs := [2]) (List.range rows.length) nD [some (rowsD rows), some (nD rows.length), none, none, none, none] (fun a => [some (rowsD rows), some (nD rows.length), some (nD a), none, none, none]) (is_rangeN (ea_one (ev_var rfl)) (by omega)) Rle.refl (fun _ _ => gt_name (by decide)) fun a ha => ?_) (sv_ret ev_bl)
    obtain ⟨⟨g1, g2⟩, G⟩ := G a ha
    have ha := List.mem_range.mp ha
    refine sv_whenF (et_orF ((et_test (ev_op (ev_cell (a := 0) ht (ev_var rfl) ev_int (ev_var rfl) (by omega) ha) (ev_var rfl) rv_neI)).is (ne_same g1)) ((et_test (ev_op (ev_cell ht (ev_var rfl) (ev_var rfl) (ev_var rfl) ha ha) (ev_var rfl) rv_neI)).is (ne_same g2))) ?_
    refine sv_less (sv_forL (vs := [3]) (List.range rows.length) nD [some (rowsD rows), some (nD rows.length), some (nD a), none, none, none] (fun b => [some (rowsD rows), some (nD rows.length), some (nD a), some (nD b), none, none]) (is_rangeN (ea_one (ev_var rfl)) (by omega)) Rle.refl (fun _ _ => gt_name (by decide)) fun b hb => ?_) (by repeat first | exact Rle.nil | refine Rle.same ?_ | refine Rle.drop ?_)
    obtain ⟨⟨g3, g4⟩, G⟩ := G b hb
    have hb := List.mem_range.mp hb
    refine sv_whenF ((et_test (ev_op (ev_cell ht (ev_var rfl) (ev_var rfl) (ev_var rfl) ha hb) (ev_cell ht (ev_var rfl) (ev_var rfl) (ev_var rfl) hb ha) rv_neI)).is (ne_same g3)) ?_
    refine sv_asg (ev_row (ev_var rfl) (ev_cell ht (ev_var rfl) (ev_var rfl) (ev_var rfl) ha hb) g4) ?_
    refine sv_less (sv_if (b := false) ((et_B (ev_cb (ea_one (EvN.toD (en_lc1 (List.range rows.length) nD (fun c => .bool false) (fun c => _) (is_rangeN (ea_one (ev_var rfl)) (by omega)) (by rw [List.length_range]; omega) (fun _ _ => gt_name (List.mem_singleton.mpr rfl)) fun c hc => ?_))) (rc_any ((List.range rows.length).map fun _ => false) (by rw [List.map_map]; rfl)))).is ?_) (fun z => nomatch z) fun _ => sv_next) (by repeat first | exact Rle.nil | refine Rle.same ?_ | refine Rle.drop ?_)
    · have g5 := G c hc
      have hc := List.mem_range.mp hc
      refine (ev_op (ev_op (ev_var rfl) (ev_var rfl) (rv_ixL (row_at (b := c) (by rw [rows_len ht g4]; exact hc)))) (ev_cell ht (ev_var rfl) (ev_var rfl) (ev_cell ht (ev_var rfl) (ev_var rfl) (ev_var rfl) hb hc) ha ?_) rv_neI).is (congrArg PyData.bool (ne_same g5))
      exact ((tab_ok rows ht).2.2 b (List.mem_range.mpr hb)).2 c (List.mem_range.mpr hc) |>.1.2
    · rw [any_map_id]; simp
abbrev N_are_table_rows : List Str := ["value", "size", "row", "number"]
theorem sc_are_table_rows : FnScope N_are_table_rows ["value"] (defScope s_are_table_rows) := ⟨rfl, rfl, rfl, by decide +kernel, rfl, by decide +kernel, by decide +kernel⟩
theorem ok_are_table_rows  (T : Txt K mg w aS) (F : Stands K mg "are_table_rows" s_are_table_rows ["value"]) (C_is_list : Cal P w K mg base "is_list" 1 ["value"] (spIsList)) (C_is_count : Cal P w K mg base "is_count" 2 ["value"] (spCnt)) (C_table_is_join : Cal P w K mg base "table_is_join" 1 ["rows"] (spTab))  : Cal P w K mg base "are_table_rows" 3 ["value"] (spF pTab (fun _ => .bool true)) := by
  have nd := sc_are_table_rows.nd
  refine F.pure sc_are_table_rows (fun ds h => ?_) fun f cdv A outer s H E hr => ⟨_, (pss_cons (ps_if (PW.pt (pw_or (pt_not (pt_val (pe_cal C_is_list hr (by omega) (by rfl) (pa_cons (pv 0) pa_nil)))) (pw_or1 (pt_not (pt_chain op_le op_le pe_int (pe_callB (k_len (K := K) rfl) (by rfl) T.b_len bt_len (pa_cons (pv 0) pa_nil)) (pe_gint (by rfl) T.MOST_TABLE_STATES)))))) (pss_one (ps_ret pe_bl)) pss_nil)
        (pss_cons (ps_set (i := 1) nd rfl (by first | exact Or.inl rfl | exact Or.inr rfl) (pe_callB (k_len (K := K) rfl) (by rfl) T.b_len bt_len (pa_cons (pv 0) pa_nil)))
        (pss_cons (ps_for PassesOwn.never rfl (k_pe (K := K) rfl (pv 0)) (pg_name (i := 2) nd rfl (by first | exact Or.inl rfl | exact Or.inr rfl)) (pss_one (ps_if (PW.pt (pw_or (pt_not (pt_val (pe_cal C_is_list hr (by omega) (by rfl) (pa_cons (pv 2) pa_nil)))) (pw_or (pt_cmpR op_ne (pe_callB (k_len (K := K) rfl) (by rfl) T.b_len bt_len (pa_cons (pv 2) pa_nil)) (pv 1) (nomark _)) (pw_or1 (pt_not (pt_val (pe_callB (k_all (K := K) rfl rfl) (by rfl) T.b_all bt_all (pa_cons (pe_lc (own := [("number", 3)]) (by rfl) nd (k_pe (K := K) rfl (pv 2)) (blkOk_by (N := N_are_table_rows) (sc := (defScope s_are_table_rows)) (own := [("number", 3)]) (by decide +kernel)) (fun _ _ _ _ _ => (pg_name (i := 3) nd rfl (by first | exact Or.inl rfl | exact Or.inr rfl))) (fun _ _ _ _ _ => pts_nil) (fun _ _ _ _ _ => (pe_and (pe_cal C_is_count hr (by omega) (by rfl) (pa_cons (pv 3) pa_nil)) (pe_one (pe_cmpR op_lt (pv 3) (pv 1) (nomark _)))))) pa_nil)))))))) (pss_one (ps_ret pe_bl)) pss_nil)))
        (pss_one (ps_ret (pe_cal C_table_is_join hr (by omega) (by rfl) (pa_cons (pv 0) pa_nil))))))), fun ds h => ?_⟩
  · exact p1_len h
  · obtain ⟨d, rfl, rows, ht, rfl⟩ := h
    obtain ⟨⟨h8, hp⟩, hrow, G⟩ := tab_ok rows ht
    have L : (rows.map rowD).length = rows.length := List.length_map ..
    refine sv_whenF (et_orF (et_notT (et_B (ev_callIs (ea_one (ev_var rfl)) ⟨_, rfl, rfl⟩ rfl))) (et_notT ((et_chain ev_int (ev_cb (ea_one (ev_var rfl)) rc_lenL) ev_int rv_B rv_B).is ?_))) ?_
    · rw [L, decide_eq_true (show (1 : Int) ≤ (rows.length : Int) by omega), decide_eq_true (show (rows.length : Int) ≤ 8 by omega)]; rfl
    refine sv_asg (ev_cb (ea_one (ev_var rfl)) rc_lenL) ?_
    rw [L]
    refine sv_seq (sv_forL (vs := [2]) rows rowD [some (rowsD rows), some (nD rows.length), none, none] (fun r => [some (rowsD rows), some (nD rows.length), some (rowD r), none]) (is_either rfl (.l _)) Rle.refl (fun _ _ => gt_name (by decide)) fun r hr' => ?_) (sv_ret (ev_callIs (ea_one (ev_var rfl)) ⟨_, rfl, rows, ht, rfl⟩ rfl))
    obtain ⟨hl, hx⟩ := hrow r hr'
    have Lr : (r.map nD).length = rows.length := by rw [List.length_map]; exact hl
    refine sv_less (sv_if (b := false) (et_orF (et_notT (et_B (ev_callIs (ea_one (ev_var rfl)) ⟨_, rfl, rfl⟩ rfl))) (et_orF ((et_test (ev_op (ev_cb (ea_one (ev_var rfl)) rc_lenL) (ev_var rfl) rv_neI)).is (ne_same Lr)) (et_notT ((et_B (ev_cb (ea_one (EvN.toD (en_lc1 r nD (fun x => .bool true) (fun c => _) (is_either rfl (.l _)) (by omega) (fun _ _ => gt_name (List.mem_singleton.mpr rfl)) fun x hm => ?_))) (rc_all (r.map fun _ => true) (by rw [List.map_map]; rfl)))).is ?_)))) (fun z => nomatch z) fun _ => sv_next) (by repeat first | exact Rle.nil | refine Rle.same ?_ | refine Rle.drop ?_)
    · have h3 := hx x hm
      refine (ev_andT (ev_callIs (d := .bool true) (ea_one (ev_var rfl)) ⟨_, rfl, rfl⟩ ?_) (ev_op (ev_var rfl) (ev_var rfl) rv_B)).is ?_
      · show PyData.bool (decide ((0 : Int) ≤ (x : Int))) = _
        rw [decide_eq_true (by omega)]
      · rw [decide_eq_true (show (x : Int) < (rows.length : Int) by omega)]
    · rw [all_map_id]; simp
end
end Pm
/-! Lists that a def makes and changes; a list of the caller that it may change (the pot); data of a set. -/
namespace Pm
open PySem PySem.Spec PyProof.Rows L2
abbrev Om := List (Nat × List PyData)
def PotAt (p : Addr) (H : Hp) : Prop := ∃ a b : Int, 0 ≤ a ∧ 0 ≤ b ∧ b < 2147483648 ∧ H p = some (.lst [.int a, .int b])
def Sw (ls : List Addr) (H H' : Hp) : Prop := Same (hid ls H) (hid ls H')
theorem Sw.refl {ls : List Addr} {H : Hp} : Sw ls H H := Same.refl _
theorem Sw.trans {ls : List Addr} {H H' H2 : Hp} (a : Sw ls H H') (b : Sw ls H' H2) : Sw ls H H2 := Same.trans a b
theorem Sw.of {ls : List Addr} {H H' : Hp} (e : Same H H') : Sw ls H H' := hid_same e
theorem Sw.hid {ls ps : List Addr} {H H' : Hp} (s : ∀ a ∈ ls, a ∈ ps) (e : Sw ls H H') : Same (hid ps H) (hid ps H') := fun a o h => by
  obtain ⟨h1, n⟩ := of_hid h
  exact hid_of (of_hid (e a o (hid_of h1 fun m => n (s a m)))).1 n
/-- what the rest of a def may lean on: nothing that was there and is not its own is changed -/
structure Go (ps qs : List Addr) (H : Hp) (qs2 : List Addr) (H2 : Hp) : Prop where
  same : Same (hid (qs ++ ps) H) (hid (qs ++ ps) H2)
  old : ∀ q ∈ qs2, q ∈ qs ∨ H q = none
  al : ∀ a, H a ≠ none → H2 a ≠ none
theorem Go.refl {ps qs : List Addr} {H : Hp} : Go ps qs H qs H := ⟨Same.refl _, fun q h => .inl h, fun a h => h⟩
theorem Go.trans {ps qs qs2 qs3 : List Addr} {H H2 H3 : Hp} (a : Go ps qs H qs2 H2) (b : Go ps qs2 H2 qs3 H3) : Go ps qs H qs3 H3 := by
  refine ⟨fun x o h => ?_, fun q h => ?_, fun x h => b.al x (a.al x h)⟩
  · obtain ⟨h1, n⟩ := of_hid h
    have h2 := (of_hid (a.same x o h)).1
    refine hid_of (of_hid (b.same x o (hid_of h2 fun m => ?_))).1 n
    rcases List.mem_append.mp m with m | m
    · rcases a.old x m with z | z
      · exact n (List.mem_append_left _ z)
      · rw [z] at h1; cases h1
    · exact n (List.mem_append_right _ m)
  · rcases b.old q h with z | z
    · exact a.old q z
    · refine .inr ?_
      cases e : H q with
      | none => rfl
      | some o => exact absurd z (a.al q (by rw [e]; exact fun z => nomatch z))
theorem Go.of {ps qs : List Addr} {H H2 : Hp} (e : Same H H2) : Go ps qs H qs H2 := ⟨hid_same e, fun q h => .inl h, fun a h z => by
  cases q : H a with
  | none => exact h q
  | some o => rw [e a o q] at z; cases z⟩
structure OkW (ls ps : List Addr) (H0 : Hp) (qs : List Addr) (H : Hp) (σ : L2.St) (ρ : Rho) (ω : Om) : Prop where
  sub : ∀ a ∈ ls, a ∈ ps
  pot : ∀ a ∈ ls, PotAt a H ∧ σ[0]? = some (some (.ref a))
  same : Sw ls H0 H
  al : ∀ a ∈ ps, H0 a ≠ none
  new : ∀ a ∈ qs, H0 a = none
  nod : qs.Nodup
  ok : Ok (qs ++ ps) H σ ρ
  len : qs.length = ω.length
  own : ∀ (k i : Nat) ds, ω[k]? = some (i, ds) → ∃ q xs, qs[k]? = some q ∧ σ[i]? = some (some (.ref q)) ∧ H q = some (.lst xs) ∧ DtA (hid (qs ++ ps) H) ds xs
/-- what a test or a value sees: the own lists as data -/
def froz (ρ : Rho) : Om → Rho
  | [] => ρ
  | (i, ds) :: ω => (froz ρ ω).set i (some (.list ds))
theorem PotAt.mono {p : Addr} {H H' : Hp} (h : PotAt p H) (e : Same H H') : PotAt p H' := by
  obtain ⟨a, b, h1, h2, h3, h4⟩ := h
  exact ⟨a, b, h1, h2, h3, e _ _ h4⟩
section
variable {ls ps qs : List Addr} {H0 H H2 : Hp} {σ σ2 : L2.St} {ρ ρ2 : Rho} {ω : Om}
theorem OkW.apart (h : OkW ls ps H0 qs H σ ρ ω) {q : Addr} (m : q ∈ qs) : q ∉ ps := fun z => h.al q z (h.new q m)
theorem OkW.free (h : OkW ls ps H0 qs H σ ρ ω) {p : Addr} (n : H p = none) : H0 p = none := by
  cases e : H0 p with
  | none => rfl
  | some o =>
    by_cases m : p ∈ ls
    · obtain ⟨a, b, _, _, _, z⟩ := (h.pot p m).1
      rw [n] at z; cases z
    · have := (of_hid (h.same p o (hid_of e m))).1
      rw [n] at this; cases this
theorem OkW.sw (h : OkW ls ps H0 qs H σ ρ ω) (e : Sw ls H H2) (hp : ∀ a ∈ ls, PotAt a H2) : OkW ls ps H0 qs H2 σ ρ ω := by
  have hs : Same (hid (qs ++ ps) H) (hid (qs ++ ps) H2) := e.hid fun a m => List.mem_append_right _ (h.sub a m)
  refine ⟨h.sub, fun a m => ⟨hp a m, (h.pot a m).2⟩, h.same.trans e, h.al, h.new, h.nod, ⟨h.ok.len, fun i d q => ?_, fun a m z => ?_⟩, h.len, fun k i ds q => ?_⟩
  · obtain ⟨v, h1, h2⟩ := h.ok.val i d q
    exact ⟨v, h1, h2.mono hs⟩
  · by_cases m2 : a ∈ ls
    · obtain ⟨_, _, _, _, _, z2⟩ := hp a m2
      rw [z] at z2; cases z2
    · cases q : H a with
      | none => exact h.ok.al a m q
      | some o =>
        have := (of_hid (e a o (hid_of q m2))).1
        rw [z] at this; cases this
  · obtain ⟨a, xs, h1, h2, h3, h4⟩ := h.own k i ds q
    have ma : a ∈ qs := List.mem_of_getElem? h1
    exact ⟨a, xs, h1, h2, (of_hid (e a _ (hid_of h3 fun m => h.apart ma (h.sub a m)))).1, h4.mono hs⟩
theorem OkW.mono (h : OkW ls ps H0 qs H σ ρ ω) (e : Same H H2) : OkW ls ps H0 qs H2 σ ρ ω := h.sw (Sw.of e) fun a m => (h.pot a m).1.mono e
theorem OkW.goSw (h : OkW ls ps H0 qs H σ ρ ω) (e : Sw ls H H2) (hp : ∀ a ∈ ls, PotAt a H2) : Go ps qs H qs H2 := by
  refine ⟨e.hid fun a m => List.mem_append_right _ (h.sub a m), fun q h => .inl h, fun a n z => ?_⟩
  by_cases m2 : a ∈ ls
  · obtain ⟨_, _, _, _, _, z2⟩ := hp a m2
    rw [z] at z2; cases z2
  · cases q : H a with
    | none => exact n q
    | some o =>
      have := (of_hid (e a o (hid_of q m2))).1
      rw [z] at this; cases this
theorem Ok.told {i : Nat} {v : V} {d : PyData} (h : Ok ps H σ ρ) (hv : σ[i]? = some (some v)) (hd : Dt (hid ps H) d v) : Ok ps H σ (ρ.set i (some d)) := by
  refine ⟨by rw [List.length_set]; exact h.len, fun j e q => ?_, h.al⟩
  by_cases hj : i = j
  · subst hj
    have hl : i < ρ.length := by
      have := (List.getElem?_eq_some_iff.mp q).1
      rwa [List.length_set] at this
    rw [List.getElem?_set_self hl] at q
    cases q
    exact ⟨v, hv, hd⟩
  · rw [List.getElem?_set_ne hj] at q
    exact h.val j e q
theorem OkW.dl (h : OkW ls ps H0 qs H σ ρ ω) {k i : Nat} {ds : List PyData} (e : ω[k]? = some (i, ds)) : ∃ v, σ[i]? = some (some v) ∧ Dt (hid ps H) (.list ds) v := by
  obtain ⟨a, xs, h1, h2, h3, h4⟩ := h.own k i ds e
  exact ⟨_, h2, dt_lst (h.apart (List.mem_of_getElem? h1)) h3 (h4.mono (hid_less fun b m => List.mem_append_right _ m))⟩
theorem OkW.frozen (h : OkW ls ps H0 qs H σ ρ ω) : Ok ps H σ (froz ρ ω) := by
  have base : Ok ps H σ ρ := ⟨h.ok.len, fun i d q => let ⟨v, h1, h2⟩ := h.ok.val i d q; ⟨v, h1, h2.mono (hid_less fun b m => List.mem_append_right _ m)⟩, fun a m => h.ok.al a (List.mem_append_right _ m)⟩
  have g : ∀ (ω2 : Om), (∀ (k i : Nat) ds, ω2[k]? = some (i, ds) → ∃ v, σ[i]? = some (some v) ∧ Dt (hid ps H) (.list ds) v) → Ok ps H σ (froz ρ ω2) := by
    intro ω2
    induction ω2 with
    | nil => exact fun _ => base
    | cons e r ih =>
      intro hh
      obtain ⟨i, ds⟩ := e
      obtain ⟨v, h1, h2⟩ := hh 0 i ds rfl
      exact Ok.told (ih fun k i ds q => hh (k + 1) i ds q) h1 h2
  exact g ω fun k i ds q => h.dl q
/-- a name takes a datum -/
theorem OkW.setv (h : OkW ls ps H0 qs H σ ρ ω) {i : Nat} {v : V} {d : PyData} (hd : Dt (hid (qs ++ ps) H) d v) (hi : ls = [] ∨ i ≠ 0) (hf : ∀ e ∈ ω, e.1 ≠ i) : OkW ls ps H0 qs H (σ.set i (some v)) (ρ.set i (some d)) ω := by
  refine ⟨h.sub, fun a m => ⟨(h.pot a m).1, ?_⟩, h.same, h.al, h.new, h.nod, h.ok.set i hd, h.len, fun k j ds q => ?_⟩
  · rcases hi with hi | hi
    · rw [hi] at m; cases m
    · rw [List.getElem?_set_ne hi]; exact (h.pot a m).2
  · obtain ⟨a, xs, h1, h2, h3, h4⟩ := h.own k j ds q
    have : j ≠ i := hf _ (List.mem_of_getElem? q)
    exact ⟨a, xs, h1, by rw [List.getElem?_set_ne (Ne.symm this)]; exact h2, h3, h4⟩
/-- a target took one -/
theorem OkW.tgt {vs : List Nat} (h : OkW ls ps H0 qs H σ ρ ω) (e : Same H H2) (ok2 : Ok (qs ++ ps) H2 σ2 ρ2) (hw : L2.wipe σ2 vs = L2.wipe σ vs) (hi : ls = [] ∨ 0 ∉ vs) (hf : ∀ e ∈ ω, e.1 ∉ vs) : OkW ls ps H0 qs H2 σ2 ρ2 ω := by
  have g := h.mono e
  have k : ∀ i, i ∉ vs → σ2[i]? = σ[i]? := fun i n => by
    have h1 := wipe_get σ2 vs i
    have h2 := wipe_get σ vs i
    rw [if_neg n] at h1 h2
    rw [← h1, ← h2, hw]
  refine ⟨g.sub, fun a m => ⟨(g.pot a m).1, ?_⟩, g.same, g.al, g.new, g.nod, ok2, g.len, fun k' j ds q => ?_⟩
  · rcases hi with hi | hi
    · rw [hi] at m; cases m
    · rw [k 0 hi]; exact (g.pot a m).2
  · obtain ⟨a, xs, h1, h2, h3, h4⟩ := g.own k' j ds q
    exact ⟨a, xs, h1, by rw [k j (hf _ (List.mem_of_getElem? q))]; exact h2, h3, h4⟩
/-- a name takes a new list -/
theorem OkW.seto (h : OkW ls ps H0 qs H σ ρ ω) {i : Nat} {p : Addr} {xs : List V} {ds : List PyData} (n : H p = none) (e : Same H H2) (hp : H2 p = some (.lst xs)) (hx : DtA (hid (p :: (qs ++ ps)) H2) ds xs)
    (hl : i < ρ.length) (hi : ls = [] ∨ i ≠ 0) (hf : ∀ e ∈ ω, e.1 ≠ i) : OkW ls ps H0 (p :: qs) H2 (σ.set i (some (.ref p))) (ρ.set i none) ((i, ds) :: ω) := by
  have g := h.mono e
  have np : p ∉ qs := fun m => h.ok.al p (List.mem_append_left _ m) n
  refine ⟨g.sub, fun a m => ⟨(g.pot a m).1, ?_⟩, g.same, g.al, fun a m => ?_, List.nodup_cons.mpr ⟨np, g.nod⟩, ?_, by rw [List.length_cons, List.length_cons, h.len], fun k j es q => ?_⟩
  · rcases hi with hi | hi
    · rw [hi] at m; cases m
    · rw [List.getElem?_set_ne hi]; exact (g.pot a m).2
  · rcases List.mem_cons.mp m with z | m
    · rw [z]; exact h.free n
    · exact g.new a m
  · exact (h.ok.under e n (fun z => by rw [hp] at z; cases z)).forget i _
  · cases k with
    | zero =>
      have q' : (i, ds) = (j, es) := by simpa using q
      cases q'
      exact ⟨p, xs, rfl, by rw [List.getElem?_set_self (by rw [h.ok.len]; exact hl)], hp, hx⟩
    | succ k =>
      have q' : ω[k]? = some (j, es) := by simpa using q
      obtain ⟨a, ys, h1, h2, h3, h4⟩ := h.own k j es q'
      have : j ≠ i := hf _ (List.mem_of_getElem? q')
      exact ⟨a, ys, by simpa using h1, by rw [List.getElem?_set_ne (Ne.symm this)]; exact h2, e _ _ h3, h4.mono (hid_more (qs := [p]) e fun b m => by rw [List.mem_singleton.mp m]; exact n)⟩
/-- an own list is changed -/
theorem OkW.put (h : OkW ls ps H0 qs H σ ρ ω) {k i : Nat} {q : Addr} {ys : List V} {ds es : List PyData} (hk : ω[k]? = some (i, ds)) (hq : qs[k]? = some q) (hy : DtA (hid (qs ++ ps) H) es ys) : OkW ls ps H0 qs (upd H q (.lst ys)) σ ρ (ω.set k (i, es)) ∧ Go ps qs H qs (upd H q (.lst ys)) := by
  have mq : q ∈ qs := List.mem_of_getElem? hq
  have nq : q ∉ ps := h.apart mq
  have hh : hid (qs ++ ps) (upd H q (.lst ys)) = hid (qs ++ ps) H := hid_upd (List.mem_append_left _ mq)
  have sw : Sw ls H0 (upd H q (.lst ys)) := fun a o ha => by
    obtain ⟨h1, n1⟩ := of_hid ha
    have hn : a ≠ q := fun z => by rw [z, h.new q mq] at h1; cases h1
    exact hid_of (by rw [upd_ne hn]; exact (of_hid (h.same a o ha)).1) n1
  have al2 : ∀ a, H a ≠ none → upd H q (.lst ys) a ≠ none := fun a n z => by
    by_cases e : a = q
    · rw [e, upd_same] at z; cases z
    · rw [upd_ne e] at z; exact n z
  refine ⟨⟨h.sub, fun a m => ⟨?_, (h.pot a m).2⟩, sw, h.al, h.new, h.nod, ⟨h.ok.len, fun j d e => by rw [hh]; exact h.ok.val j d e, fun a m => al2 a (h.ok.al a m)⟩, by rw [List.length_set]; exact h.len, fun k2 j cs e => ?_⟩, ⟨by rw [hh]; exact Same.refl _, fun q h => .inl h, al2⟩⟩
  · obtain ⟨x, y, h1, h2, h3, h4⟩ := (h.pot a m).1
    exact ⟨x, y, h1, h2, h3, by rw [upd_ne (fun z => nq (by rw [← z]; exact h.sub a m))]; exact h4⟩
  · rw [hh]
    have hkl : k < ω.length := (List.getElem?_eq_some_iff.mp hk).1
    by_cases e2 : k = k2
    · subst e2
      rw [List.getElem?_set_self hkl] at e
      cases e
      obtain ⟨a, xs, h1, h2, h3, h4⟩ := h.own k i ds hk
      rw [hq] at h1
      cases h1
      exact ⟨q, ys, hq, h2, upd_same, hy⟩
    · rw [List.getElem?_set_ne e2] at e
      obtain ⟨a, xs, h1, h2, h3, h4⟩ := h.own k2 j cs e
      have hn : a ≠ q := fun z => by
        rw [z] at h1
        obtain ⟨l1, g1⟩ := List.getElem?_eq_some_iff.mp h1
        obtain ⟨l2, g2⟩ := List.getElem?_eq_some_iff.mp hq
        exact e2 ((List.getElem_inj h.nod).mp (g2.trans g1.symm))
      exact ⟨a, xs, h1, h2, by rw [upd_ne hn]; exact h3, h4⟩
/-- an own list is no more changed -/
theorem OkW.freeze {i : Nat} {ds : List PyData} {q : Addr} (h : OkW ls ps H0 (q :: qs) H σ ρ ((i, ds) :: ω)) : OkW ls ps H0 qs H σ (ρ.set i (some (.list ds))) ω := by
  have hs : Same (hid (q :: qs ++ ps) H) (hid (qs ++ ps) H) := hid_less fun a m => List.mem_cons_of_mem _ m
  obtain ⟨nd1, nd2⟩ := List.nodup_cons.mp h.nod
  refine ⟨h.sub, h.pot, h.same, h.al, fun a m => h.new a (List.mem_cons_of_mem _ m), nd2, ?_, by simpa using h.len, fun k j es e => ?_⟩
  · have ok2 : Ok (qs ++ ps) H σ ρ := ⟨h.ok.len, fun i d z => let ⟨v, h1, h2⟩ := h.ok.val i d z; ⟨v, h1, h2.mono hs⟩, fun a m => h.ok.al a (List.mem_cons_of_mem _ m)⟩
    obtain ⟨a, xs, h1, h2, h3, h4⟩ := h.own 0 i ds rfl
    have h1 : q = a := by simpa using h1
    subst h1
    refine ok2.told h2 (dt_lst (fun m => ?_) h3 (h4.mono hs))
    rcases List.mem_append.mp m with m | m
    · exact nd1 m
    · exact h.apart List.mem_cons_self m
  · obtain ⟨a, xs, h1, h2, h3, h4⟩ := h.own (k + 1) j es (by simpa using e)
    exact ⟨a, xs, by simpa using h1, h2, h3, h4.mono hs⟩
end
/-! ### judgments -/
abbrev DS := PyData → Prop
def EvQ (ls : List Addr) (te : TE) (ρ : Rho) (ω : Om) (S : DS) : Prop := ∀ ps H0 qs H σ, OkW ls ps H0 qs H σ ρ ω → ∀ Q : VK, (∀ v d H2, S d → Go ps qs H qs H2 → OkW ls ps H0 qs H2 σ ρ ω → Dt (hid (qs ++ ps) H2) d v → Q v H2) → te σ H Q
def EaQ (ls : List Addr) (ta : TA) (ρ : Rho) (ω : Om) (S : List PyData → Prop) : Prop := ∀ ps H0 qs H σ, OkW ls ps H0 qs H σ ρ ω → ∀ Q : List V → Hp → Prop, (∀ vs ds H2, S ds → Go ps qs H qs H2 → OkW ls ps H0 qs H2 σ ρ ω → DtA (hid (qs ++ ps) H2) ds vs → Q vs H2) → ta σ H Q
def EtQ (ls : List Addr) (tt : TT) (ρ : Rho) (ω : Om) (B : Bool → Prop) : Prop := ∀ ps H0 qs H σ, OkW ls ps H0 qs H σ ρ ω → ∀ Q : Bool → Hp → Prop, (∀ b H2, B b → Go ps qs H qs H2 → OkW ls ps H0 qs H2 σ ρ ω → Q b H2) → tt σ H Q
def SvQ (ls : List Addr) (ts : TS) (ρ : Rho) (ω : Om) (R : DS) (N : Rho → Om → Prop) : Prop := ∀ ps H0 qs H σ (D : Ends), OkW ls ps H0 qs H σ ρ ω → (∀ v d H2, R d → Sw ls H0 H2 → (∀ a ∈ ls, PotAt a H2) → Dt (hid ps H2) d v → D.rt v H2) →
  (∀ qs2 σ2 H2 ρ2 ω2, N ρ2 ω2 → Go ps qs H qs2 H2 → OkW ls ps H0 qs2 H2 σ2 ρ2 ω2 → D.nx σ2 H2) → ts D σ H
section
variable {ls : List Addr} {ρ ρ' : Rho} {ω : Om} {ta tb te : TE} {t u : TT} {tr : TA} {d : PyData} {ds : List PyData} {S S1 S2 R : DS} {b : Bool} {T : List PyData → Prop} {ts tw : TS} {N N2 : Rho → Om → Prop} {B B1 B2 : Bool → Prop}
theorem evq_of (h : EvD te ρ d) (hs : S d) : EvQ ls te ρ ω S := fun ps H0 qs H σ ok Q q => h _ σ H ok.ok Q fun v H2 e hv => q v d H2 hs (Go.of e) (ok.mono e) hv
theorem evq_imp (h : EvQ ls te ρ ω S1) (hs : ∀ d, S1 d → S d) : EvQ ls te ρ ω S := fun ps H0 qs H σ ok Q q => h ps H0 qs H σ ok Q fun v d H2 s => q v d H2 (hs d s)
def flat : PyData → Bool
  | .none => true
  | .bool _ => true
  | .int _ => true
  | .str _ => true
  | _ => false
theorem flat_any {H H' : Hp} : ∀ {d : PyData} {v : V}, flat d = true → Dt H d v → Dt H' d v
  | .none, _, _, h => by simpa only [Dt] using h
  | .bool _, _, _, h => by simpa only [Dt] using h
  | .int _, _, _, h => by simpa only [Dt] using h
  | .str _, _, _, h => by simpa only [Dt] using h
  | .list _, _, h, _ => nomatch h
  | .tuple _, _, h, _ => nomatch h
  | .dict _, _, h, _ => nomatch h
/-- a value that holds no list, from own lists -/
theorem evq_fr (h : EvD te (froz ρ ω) d) (hf : flat d = true) (hs : S d) : EvQ ls te ρ ω S := fun ps H0 qs H σ ok Q q => h _ σ H ok.frozen Q fun v H2 e hv => q v d H2 hs (Go.of e) (ok.mono e) (flat_any hf hv)
theorem etq_fr (h : EvT t (froz ρ ω) b) (hs : B b) : EtQ ls t ρ ω B := fun ps H0 qs H σ ok Q q => h _ σ H ok.frozen Q fun H2 e => q b H2 hs (Go.of e) (ok.mono e)
theorem etq_of (h : EvT t ρ b) (hs : B b) : EtQ ls t ρ ω B := fun ps H0 qs H σ ok Q q => h _ σ H ok.ok Q fun H2 e => q b H2 hs (Go.of e) (ok.mono e)
theorem etq_test (h : EvQ ls te ρ ω S) (hs : ∀ d, S d → ∃ b, d = .bool b ∧ B b) : EtQ ls (tTest te) ρ ω B := fun ps H0 qs H σ ok Q q => h ps H0 qs H σ ok _ fun v d H2 s g ok2 hv => by
  obtain ⟨b, rfl, hb⟩ := hs d s
  exact ⟨b, of_bl hv, q b H2 hb g ok2⟩
theorem etq_B (h : EvQ ls te ρ ω S) (hs : ∀ d, S d → ∃ b, d = .bool b ∧ B b) : EtQ ls (tB te) ρ ω B := fun ps H0 qs H σ ok Q q => h ps H0 qs H σ ok _ fun v d H2 s g ok2 hv => by
  obtain ⟨b, rfl, hb⟩ := hs d s
  exact ⟨b, of_bl hv, q b H2 hb g ok2⟩
theorem etq_and (h1 : EtQ ls t ρ ω B1) (h2 : EtQ ls u ρ ω B2) (hf : B1 false → B false) (ht : ∀ b, B2 b → B b) : EtQ ls (tAnd t u) ρ ω B := fun ps H0 qs H σ ok Q q => h1 ps H0 qs H σ ok _ fun b H1 hb g ok1 => by
  cases b with
  | true => exact iteT (h2 ps H0 qs H1 σ ok1 Q fun b H2 hb g2 ok2 => q b H2 (ht b hb) (g.trans g2) ok2)
  | false => exact iteF (q false H1 (hf hb) g ok1)
theorem etq_or (h1 : EtQ ls t ρ ω B1) (h2 : EtQ ls u ρ ω B2) (ht : B1 true → B true) (hf : ∀ b, B2 b → B b) : EtQ ls (tOr t u) ρ ω B := fun ps H0 qs H σ ok Q q => h1 ps H0 qs H σ ok _ fun b H1 hb g ok1 => by
  cases b with
  | false => exact iteF (h2 ps H0 qs H1 σ ok1 Q fun b H2 hb g2 ok2 => q b H2 (hf b hb) (g.trans g2) ok2)
  | true => exact iteT (q true H1 (ht hb) g ok1)
theorem etq_not (h1 : EtQ ls t ρ ω B1) (hb : ∀ b, B1 b → B (!b)) : EtQ ls (tNot t) ρ ω B := fun ps H0 qs H σ ok Q q => h1 ps H0 qs H σ ok _ fun b H1 h g ok1 => q _ H1 (hb b h) g ok1
theorem evq_if (h : EtQ ls t ρ ω B) (h1 : B true → EvQ ls ta ρ ω S) (h2 : B false → EvQ ls tb ρ ω S) : EvQ ls (tIf t ta tb) ρ ω S := fun ps H0 qs H σ ok Q q => h ps H0 qs H σ ok _ fun b H1 hb g ok1 => by
  cases b with
  | true => exact iteT (h1 hb ps H0 qs H1 σ ok1 Q fun v d H2 s g2 ok2 hv => q v d H2 s (g.trans g2) ok2 hv)
  | false => exact iteF (h2 hb ps H0 qs H1 σ ok1 Q fun v d H2 s g2 ok2 hv => q v d H2 s (g.trans g2) ok2 hv)
theorem OkW.alq {ps qs : List Addr} {H0 H : Hp} {σ : L2.St} (ok : OkW ls ps H0 qs H σ ρ ω) : ∀ a ∈ qs ++ ps, H a ≠ none := ok.ok.al
theorem evq_op {r : R2} (ha : EvQ ls ta ρ ω S1) (hb : EvQ ls tb ρ ω S2) (hr : ∀ d e, S1 d → S2 e → ∃ c, RvD r d e c ∧ S c) : EvQ ls (tOp r ta tb) ρ ω S := fun ps H0 qs H σ ok Q q =>
  ha ps H0 qs H σ ok _ fun x d H1 sd g1 ok1 hx => hb ps H0 qs H1 σ ok1 _ fun y e H2 se g2 ok2 hy => by
    obtain ⟨c, rc, hc⟩ := hr d e sd se
    exact rc (qs ++ ps) x y H2 ok2.alq (hx.mono g2.same) hy Q fun v H3 e3 hv => q v c H3 hc ((g1.trans g2).trans (Go.of e3)) (ok2.mono e3) hv
theorem evq_cb {rr : List V → Hp → VK → Prop} (ha : EaQ ls tr ρ ω T) (hr : ∀ ds, T ds → ∃ c, RcD rr ds c ∧ S c) : EvQ ls (tCB rr tr) ρ ω S := fun ps H0 qs H σ ok Q q =>
  ha ps H0 qs H σ ok _ fun xs ds H1 sd g1 ok1 hx => by
    obtain ⟨c, rc, hc⟩ := hr ds sd
    exact rc (qs ++ ps) xs H1 ok1.alq hx Q fun v H3 e3 hv => q v c H3 hc (g1.trans (Go.of e3)) (ok1.mono e3) hv
theorem eaq_nil (h : T []) : EaQ ls tNil ρ ω T := fun ps H0 qs H σ ok Q q => q [] [] H h Go.refl ok DtA.nil
theorem eaq_cons (h : EvQ ls te ρ ω S) (hr : ∀ d, S d → EaQ ls tr ρ ω fun es => T (d :: es)) : EaQ ls (tCons te tr) ρ ω T := fun ps H0 qs H σ ok Q q =>
  h ps H0 qs H σ ok _ fun v d H1 sd g1 ok1 hv => hr d sd ps H0 qs H1 σ ok1 _ fun vs es H2 se g2 ok2 hvs => q (v :: vs) (d :: es) H2 se (g1.trans g2) ok2 (DtA.cons (hv.mono g2.same) hvs)
theorem eaq_of (h : EvA tr ρ ds) (hs : T ds) : EaQ ls tr ρ ω T := fun ps H0 qs H σ ok Q q => h _ σ H ok.ok Q fun v H2 e hv => q v ds H2 hs (Go.of e) (ok.mono e) hv
theorem eaq_one (h : EvQ ls te ρ ω fun d => T [d]) : EaQ ls (tCons te tNil) ρ ω T := eaq_cons h fun d hd => eaq_nil hd
theorem evq_tup (h : EaQ ls tr ρ ω T) (hl : ∀ ds, T ds → ds.length ≤ 100000) (hs : ∀ ds, T ds → S (.tuple ds)) : EvQ ls (tTup tr) ρ ω S := fun ps H0 qs H σ ok Q q =>
  h ps H0 qs H σ ok _ fun vs ds H1 sd g1 ok1 hv => ⟨by rw [hv.length]; exact small_ok (hl ds sd), fun p np => q _ _ _ (hs ds sd) (g1.trans (Go.of (same_upd np))) (ok1.mono (same_upd np))
    (dt_tup (fun m => ok1.alq p m np) upd_same (hv.mono (hid_same (same_upd np))))⟩
theorem evq_callP {pre : List PyData → Prop} {f : List PyData → PyData} {E : XK} (h : EaQ ls tr ρ ω T) (hp : ∀ ds, T ds → pre ds ∧ S (f ds)) : EvQ ls (tCall (spF pre f) [] E tr) ρ ω S := fun ps H0 qs H σ ok Q q =>
  h ps H0 qs H σ ok _ fun vs ds H1 sd g1 ok1 hv => ⟨qs ++ ps, ds, ok1.alq, by rw [List.append_nil]; exact hv, (hp ds sd).1, fun v H2 e2 h2 => q v _ H2 (hp ds sd).2 (g1.trans (Go.of e2)) (ok1.mono e2) h2⟩
/-! ### blocks -/
theorem svq_ret (h : EvQ ls te ρ ω R) : SvQ ls (tRet te) ρ ω R N := fun ps H0 qs H σ D ok q1 q2 => h ps H0 qs H σ ok _ fun v d H2 hd g ok2 hv => q1 v d H2 hd ok2.same (fun a m => (ok2.pot a m).1) (hv.mono (hid_less fun b m => List.mem_append_right _ m))
theorem svq_retO (h : EvD te (froz ρ ω) d) (hd : R d) : SvQ ls (tRet te) ρ ω R N := fun ps H0 qs H σ D ok q1 q2 => h ps σ H ok.frozen _ fun v H2 e hv => q1 v d H2 hd (ok.mono e).same (fun a m => ((ok.mono e).pot a m).1) hv
theorem svq_next (h : N ρ ω) : SvQ ls tNext ρ ω R N := fun ps H0 qs H σ D ok q1 q2 => q2 qs σ H ρ ω h Go.refl ok
theorem svq_seq (h1 : SvQ ls ts ρ ω R N) (h2 : ∀ ρ2 ω2, N ρ2 ω2 → SvQ ls tw ρ2 ω2 R N2) : SvQ ls (tSeq ts tw) ρ ω R N2 := fun ps H0 qs H σ D ok q1 q2 => h1 ps H0 qs H σ _ ok q1 fun qs2 σ2 H2 ρ2 ω2 n g ok2 => h2 ρ2 ω2 n ps H0 qs2 H2 σ2 D ok2 q1 fun qs3 σ3 H3 ρ3 ω3 n3 g3 ok3 => q2 qs3 σ3 H3 ρ3 ω3 n3 (g.trans g3) ok3
theorem svq_seq1 {ω' : Om} (h1 : SvQ ls ts ρ ω R fun a b => a = ρ' ∧ b = ω') (h2 : SvQ ls tw ρ' ω' R N2) : SvQ ls (tSeq ts tw) ρ ω R N2 := svq_seq h1 fun ρ2 ω2 h => by rw [h.1, h.2]; exact h2
theorem svq_if (h : EtQ ls t ρ ω B) (h1 : B true → SvQ ls ts ρ ω R N) (h2 : B false → SvQ ls tw ρ ω R N) : SvQ ls (tIfS t ts tw) ρ ω R N := fun ps H0 qs H σ D ok q1 q2 => h ps H0 qs H σ ok _ fun b H1 hb g ok1 => by
  cases b with
  | true => exact iteT (h1 hb ps H0 qs H1 σ D ok1 q1 fun qs2 σ2 H2 ρ2 ω2 n g2 ok2 => q2 qs2 σ2 H2 ρ2 ω2 n (g.trans g2) ok2)
  | false => exact iteF (h2 hb ps H0 qs H1 σ D ok1 q1 fun qs2 σ2 H2 ρ2 ω2 n g2 ok2 => q2 qs2 σ2 H2 ρ2 ω2 n (g.trans g2) ok2)
/-- an if, then the rest -/
theorem svq_when (h : EtQ ls t ρ ω B) (h1 : B true → SvQ ls (tSeq ts tw) ρ ω R N) (h2 : B false → SvQ ls tw ρ ω R N) : SvQ ls (tSeq (tIfS t ts tNext) tw) ρ ω R N := fun ps H0 qs H σ D ok q1 q2 => h ps H0 qs H σ ok _ fun b H1 hb g ok1 => by
  cases b with
  | true => exact iteT (h1 hb ps H0 qs H1 σ D ok1 q1 fun qs2 σ2 H2 ρ2 ω2 n g2 ok2 => q2 qs2 σ2 H2 ρ2 ω2 n (g.trans g2) ok2)
  | false => exact iteF (h2 hb ps H0 qs H1 σ D ok1 q1 fun qs2 σ2 H2 ρ2 ω2 n g2 ok2 => q2 qs2 σ2 H2 ρ2 ω2 n (g.trans g2) ok2)
theorem svq_stop (h1 : SvQ ls ts ρ ω R fun _ _ => False) : SvQ ls (tSeq ts tw) ρ ω R N := fun ps H0 qs H σ D ok q1 q2 => h1 ps H0 qs H σ _ ok q1 fun _ _ _ _ _ n => n.elim
theorem svq_set {i : Nat} (h : EvQ ls te ρ ω S) (hi : ls = [] ∨ i ≠ 0) (hf : ∀ e ∈ ω, e.1 ≠ i) (hn : ∀ d, S d → N (ρ.set i (some d)) ω) : SvQ ls (tAsg te (gName i)) ρ ω R N := fun ps H0 qs H σ D ok q1 q2 => h ps H0 qs H σ ok _ fun v d H1 sd g ok1 hv => q2 qs _ H1 _ _ (hn d sd) g (ok1.setv hv hi hf)
theorem svq_asg {i : Nat} (h : EvQ ls te ρ ω S) (hi : ls = [] ∨ i ≠ 0) (hf : ∀ e ∈ ω, e.1 ≠ i) (hn : ∀ d, S d → SvQ ls tw (ρ.set i (some d)) ω R N) : SvQ ls (tSeq (tAsg te (gName i)) tw) ρ ω R N :=
  svq_seq (svq_set (N := fun a b => ∃ d, S d ∧ a = ρ.set i (some d) ∧ b = ω) h hi hf fun d sd => ⟨d, sd, rfl, rfl⟩) fun ρ2 ω2 ⟨d, sd, e1, e2⟩ => by rw [e1, e2]; exact hn d sd
theorem svq_own {i : Nat} (h : EvN te ρ ds) (hl : i < ρ.length) (hi : ls = [] ∨ i ≠ 0) (hf : ∀ e ∈ ω, e.1 ≠ i) (hn : SvQ ls tw (ρ.set i none) ((i, ds) :: ω) R N) : SvQ ls (tSeq (tAsg te (gName i)) tw) ρ ω R N := fun ps H0 qs H σ D ok q1 q2 =>
  h _ σ H ok.ok _ fun p xs H2 np e hp hx => hn ps H0 (p :: qs) H2 _ D (ok.seto np e hp hx hl hi hf) q1 fun qs2 σ2 H3 ρ2 ω2 n g ok2 => q2 qs2 σ2 H3 ρ2 ω2 n
    ((⟨hid_same e, fun q m => (List.mem_cons.mp m).elim (fun z => .inr (by rw [z]; exact np)) .inl, (Go.of (ps := ps) (qs := qs) e).al⟩ : Go ps qs H (p :: qs) H2).trans g) ok2
theorem svq_freeze {i : Nat} (h : SvQ ls ts (ρ.set i (some (.list ds))) ω R N) : SvQ ls ts ρ ((i, ds) :: ω) R N := fun ps H0 qs H σ D ok q1 q2 => by
  cases qs with
  | nil => exact absurd ok.len (by simp)
  | cons q qs => exact h ps H0 qs H σ D ok.freeze q1 fun qs2 σ2 H2 ρ2 ω2 n g ok2 => q2 qs2 σ2 H2 ρ2 ω2 n ((⟨Same.refl _, fun x m => .inl (List.mem_cons_of_mem _ m), fun a h => h⟩ : Go ps (q :: qs) H qs H).trans g) ok2
theorem OkW.rle {ps qs : List Addr} {H0 H : Hp} {σ : L2.St} {ρ0 : Rho} (ok : OkW ls ps H0 qs H σ ρ ω) (h : Rle ρ0 ρ) : OkW ls ps H0 qs H σ ρ0 ω := ⟨ok.sub, ok.pot, ok.same, ok.al, ok.new, ok.nod, ok.ok.rle h, ok.len, ok.own⟩
theorem svq_more {ρ0 : Rho} (h : SvQ ls ts ρ0 ω R N) (l : Rle ρ0 ρ) : SvQ ls ts ρ ω R N := fun ps H0 qs H σ D ok q1 q2 => h ps H0 qs H σ D (ok.rle l) q1 q2
theorem svq_less {ρ0 : Rho} {ω' : Om} (h : SvQ ls ts ρ ω R fun a b => Rle ρ0 a ∧ b = ω') : SvQ ls ts ρ ω R fun a b => a = ρ0 ∧ b = ω' := fun ps H0 qs H σ D ok q1 q2 => h ps H0 qs H σ D ok q1 fun qs2 σ2 H2 ρ2 ω2 n g ok2 => q2 qs2 σ2 H2 ρ0 ω2 ⟨rfl, n.2⟩ g (ok2.rle n.1)
theorem svq_imp {R' : DS} {N' : Rho → Om → Prop} (h : SvQ ls ts ρ ω R' N') (hr : ∀ d, R' d → R d) (hn : ∀ a b, N' a b → N a b) : SvQ ls ts ρ ω R N := fun ps H0 qs H σ D ok q1 q2 => h ps H0 qs H σ D ok (fun v d H2 hd => q1 v d H2 (hr d hd)) fun qs2 σ2 H2 ρ2 ω2 n => q2 qs2 σ2 H2 ρ2 ω2 (hn _ _ n)
/-! ### methods of own lists -/
theorem own_ty {K : PySem.W.Frag} {ps qs : List Addr} {H0 H : Hp} {σ : L2.St} {p : Addr} {xs : List V} (h : H p = some (.lst xs)) : tyV K "list" (.ref p) H := .inl ⟨rfl, xs, SqL.of h⟩
theorem svq_app {K : PySem.W.Frag} {k i : Nat} (hk : ω[k]? = some (i, ds)) (h : EvQ ls te ρ ω S) (hl : ds.length < 100000) (hn : ∀ d, S d → N ρ (ω.set k (i, ds ++ [d]))) : SvQ ls (tDrop (tBM K "list" rAppend (tVar i) (tCons te tNil))) ρ ω R N := fun ps H0 qs H σ D ok q1 q2 => by
  obtain ⟨a, xs, h1, h2, h3, h4⟩ := ok.own k i ds hk
  refine ⟨.ref a, h2, .inl ⟨rfl, xs, SqL.of h3⟩, h ps H0 qs H σ ok _ fun v d H2 sd g ok2 hv => ?_⟩
  obtain ⟨a', ys, g1, g2, g3, g4⟩ := ok2.own k i ds hk
  rw [h1] at g1
  cases g1
  obtain ⟨o1, o2⟩ := ok2.put hk h1 (DtA.append g4 (DtA.cons hv DtA.nil))
  exact ⟨a, ys, v, rfl, rfl, g3, by rw [g4.length]; exact Nat.lt_of_lt_of_le hl (by decide), q2 qs σ _ ρ _ (hn d sd) (g.trans o2) o1⟩
theorem dropLast_append {α : Type} (l : List α) (x : α) : (l ++ [x]).dropLast = l := by simp
theorem DtA.dropLast {H : Hp} {ds : List PyData} {vs : List V} (h : DtA H ds vs) : DtA H ds.dropLast vs.dropLast := by
  rw [List.dropLast_eq_take, List.dropLast_eq_take, h.length]; exact h.take _
/-- the last one goes, a target takes it -/
theorem svq_pop {K : PySem.W.Frag} {k i : Nat} {g : TG} {vs : List Nat} (hk : ω[k]? = some (i, ds)) (hd : ds[ds.length - 1]? = some d) (hg : GtD g ρ d ρ' vs) (hi : ls = [] ∨ 0 ∉ vs) (hf : ∀ e ∈ ω, e.1 ∉ vs) (hn : N ρ' (ω.set k (i, ds.dropLast))) :
    SvQ ls (tAsg (tBM0 K "list" rPop (tVar i)) g) ρ ω R N := fun ps H0 qs H σ D ok q1 q2 => by
  obtain ⟨a, xs, h1, h2, h3, h4⟩ := ok.own k i ds hk
  obtain ⟨v, e1, hv⟩ := h4.get hd
  refine ⟨.ref a, h2, .inl ⟨rfl, xs, SqL.of h3⟩, a, xs, v, rfl, rfl, h3, by rw [h4.length]; exact e1, ?_⟩
  obtain ⟨o1, o2⟩ := ok.put hk h1 h4.dropLast
  have hh : hid (qs ++ ps) (upd H a (.lst xs.dropLast)) = hid (qs ++ ps) H := hid_upd (List.mem_append_left _ (List.mem_of_getElem? h1))
  refine hg (qs ++ ps) v σ _ o1.ok (by rw [hh]; exact hv) _ fun σ2 H2 e2 ok2 w2 => ?_
  refine q2 qs σ2 H2 ρ' _ hn (o2.trans (Go.of e2)) (o1.tgt e2 ok2 w2 hi fun e m => ?_)
  obtain ⟨n, hn⟩ := List.getElem?_of_mem m
  by_cases hkn : k = n
  · subst hkn
    rw [List.getElem?_set_self (List.getElem?_eq_some_iff.mp hk).1] at hn
    cases hn
    exact (hf _ (List.mem_of_getElem? hk) : i ∉ vs)
  · rw [List.getElem?_set_ne hkn] at hn
    exact hf _ (List.mem_of_getElem? hn)
/-! ### loops -/
theorem svq_for {α : Type} {wi : TI} {g : TG} {vs : List Nat} (ys : List α) (g0 : α → PyData) (inv : Nat → Rho → Om → Prop) (r : α → Rho → Rho) (hs : IsD wi ρ (ys.map g0)) (h0 : inv 0 ρ ω)
    (hg : ∀ i x ρ1 ω1, ys[i]? = some x → inv i ρ1 ω1 → GtD g ρ1 (g0 x) (r x ρ1) vs ∧ ∀ e ∈ ω1, e.1 ∉ vs) (hi : ls = [] ∨ 0 ∉ vs)
    (hb : ∀ i x ρ1 ω1, ys[i]? = some x → inv i ρ1 ω1 → SvQ ls ts (r x ρ1) ω1 R (inv (i + 1))) (hn : ∀ a b, inv ys.length a b → N a b) : SvQ ls (tFor wi g ts) ρ ω R N := fun ps H0 qs H σ D ok q1 q2 => by
  refine hs _ σ H ok.ok _ fun J H1 e1 S => ?_
  refine ⟨fun i m σ' H' => m = ys.length - i ∧ i ≤ ys.length ∧ ∃ qs' ρ' ω', inv i ρ' ω' ∧ Go ps qs H1 qs' H' ∧ OkW ls ps H0 qs' H' σ' ρ' ω', ⟨_, rfl, Nat.zero_le _, qs, ρ, ω, h0, Go.refl, ok.mono e1⟩, ?_⟩
  rintro i m σ' H' ⟨rfl, hi', qs', ρ', ω', iv, g1, ok1⟩
  by_cases hlt : i < ys.length
  · refine .inr ⟨S.go i H' (by rw [List.length_map]; exact hlt) g1.same, fun σ2 H2 => i + 1 ≤ ys.length ∧ ∃ qs' ρ' ω', inv (i + 1) ρ' ω' ∧ Go ps qs H1 qs' H2 ∧ OkW ls ps H0 qs' H2 σ2 ρ' ω', fun σ2 H2 z => ⟨ys.length - (i + 1), by omega, rfl, z⟩, fun x H'' y => ?_⟩
    have alA : ∀ a ∈ (qs'.filter fun q => decide (q ∉ qs)) ++ (qs ++ ps), H' a ≠ none := fun a m => by
      rcases List.mem_append.mp m with m | m
      · exact ok1.alq a (List.mem_append_left _ (List.mem_filter.mp m).1)
      · exact g1.al a (al_mono e1 ok.ok.al a m)
    obtain ⟨s2, d, f1, f2⟩ := S.yld i H' x H'' (qs'.filter fun q => decide (q ∉ qs)) (by rw [List.length_map]; exact hlt) g1.same (fun a m => by
      obtain ⟨m1, m2⟩ := List.mem_filter.mp m
      exact (g1.old a m1).resolve_left (of_decide_eq_true m2)) alA y
    obtain ⟨z, hz⟩ : ∃ z, ys[i]? = some z := ⟨_, List.getElem?_eq_getElem hlt⟩
    rw [List.getElem?_map, hz] at f1
    cases f1
    have f3 : Dt (hid (qs' ++ ps) H'') (g0 z) x := f2.mono (hid_less fun a m => by
      rcases List.mem_append.mp m with m | m
      · by_cases mq : a ∈ qs
        · exact List.mem_append_right _ (List.mem_append_left _ mq)
        · exact List.mem_append_left _ (List.mem_filter.mpr ⟨m, decide_eq_true mq⟩)
      · exact List.mem_append_right _ (List.mem_append_right _ m))
    obtain ⟨gt, gf⟩ := hg i z ρ' ω' hz iv
    refine gt (qs' ++ ps) x σ' H'' (ok1.mono s2).ok f3 _ fun σ2 H2 s3 ok2 w2 => ?_
    refine hb i z ρ' ω' hz iv ps H0 qs' H2 σ2 _ ((ok1.mono s2).tgt s3 ok2 w2 hi gf) q1 fun qs3 σ3 H3 ρ3 ω3 n3 g3 ok3 => ⟨hlt, qs3, ρ3, ω3, n3, ((g1.trans (Go.of s2)).trans (Go.of s3)).trans g3, ok3⟩
  · have hi2 : i = ys.length := by omega
    subst hi2
    exact .inl ⟨by have := S.stop H' g1.same; rwa [List.length_map] at this, q2 qs' σ' H' ρ' ω' (hn _ _ iv) ((Go.of e1).trans g1) ok1⟩
theorem svq_while (inv : Nat → Rho → Om → Prop) {n : Nat} (h0 : inv n ρ ω) (ht : ∀ m ρ1 ω1, inv m ρ1 ω1 → ∃ b, EvT t (froz ρ1 ω1) b ∧ (b = true → SvQ ls ts ρ1 ω1 R fun a c => ∃ m' < m, inv m' a c) ∧ (b = false → N ρ1 ω1)) : SvQ ls (tWhile t ts) ρ ω R N := fun ps H0 qs H σ D ok q1 q2 => by
  refine ⟨fun m σ' H' => ∃ qs' ρ' ω', inv m ρ' ω' ∧ Go ps qs H qs' H' ∧ OkW ls ps H0 qs' H' σ' ρ' ω', ⟨n, qs, ρ, ω, h0, Go.refl, ok⟩, ?_⟩
  rintro m σ' H' ⟨qs', ρ', ω', iv, g1, ok1⟩
  obtain ⟨b, h1, h2, h3⟩ := ht m ρ' ω' iv
  refine h1 ps σ' H' ok1.frozen _ fun H2 e2 => ?_
  cases b with
  | true => exact iteT ⟨fun σ2 H2 => ∃ m' < m, ∃ qs' ρ' ω', inv m' ρ' ω' ∧ Go ps qs H qs' H2 ∧ OkW ls ps H0 qs' H2 σ2 ρ' ω', fun σ2 H2 z => z, h2 rfl ps H0 qs' H2 σ' _ (ok1.mono e2) q1 fun qs3 σ3 H3 ρ3 ω3 ⟨m', lt, n3⟩ g3 ok3 => ⟨m', lt, qs3, ρ3, ω3, n3, (g1.trans (Go.of e2)).trans g3, ok3⟩⟩
  | false => exact iteF (q2 qs' σ' H2 ρ' ω' (h3 rfl) (g1.trans (Go.of e2)) (ok1.mono e2))
end
/-! ### defs -/
theorem start_ok {ps : List Addr} {H : Hp} {N : List Str} {ds : List PyData} {vs : List V} (al : ∀ a ∈ ps, H a ≠ none) (h : DtA (hid ps H) ds vs) : OkW [] ps H [] H (L2.start N vs) (rho0 N ds) [] :=
  ⟨fun a m => (nomatch m), fun a m => (nomatch m), Sw.refl, al, fun a m => (nomatch m), List.nodup_nil, dta_ok al h, rfl, fun k i ds z => by simp at z⟩
/-- the pot and data: the datum handed back is one of S -/
def spQ (pre : List PyData → Prop) (S : List PyData → DS) : Sp := fun vs H Q _ => ∃ (p : Addr) (ps : List Addr) (ds : List PyData) (ws : List V), vs = .ref p :: ws ∧ p ∈ ps ∧ PotAt p H ∧ (∀ a ∈ ps, H a ≠ none) ∧ DtA (hid ps H) ds ws ∧ pre ds ∧
  ∀ v d H2, S ds d → Sw [p] H H2 → PotAt p H2 → Dt (hid ps H2) d v → Q v H2
def rhoP (N : List Str) (ds : List PyData) : Rho := none :: (ds.map some ++ List.replicate (N.length - (ds.length + 1)) none)
theorem startP_ok {p : Addr} {ps : List Addr} {H : Hp} {N : List Str} {ds : List PyData} {vs : List V} (mp : p ∈ ps) (hp : PotAt p H) (al : ∀ a ∈ ps, H a ≠ none) (h : DtA (hid ps H) ds vs) : OkW [p] ps H [] H (L2.start N (.ref p :: vs)) (rhoP N ds) [] := by
  refine ⟨fun a m => by rw [List.mem_singleton.mp m]; exact mp, fun a m => by rw [List.mem_singleton.mp m]; exact ⟨hp, rfl⟩, Sw.refl, al, fun a m => (nomatch m), List.nodup_nil, ⟨?_, fun i d q => ?_, al⟩, rfl, fun k i ds z => by simp at z⟩
  · simp [L2.start, rhoP, h.length]
  · cases i with
    | zero => simp [rhoP] at q
    | succ i =>
      have q : (ds.map some ++ List.replicate (N.length - (ds.length + 1)) none)[i]? = some (some d) := by simpa [rhoP] using q
      have e : (L2.start N (.ref p :: vs))[i + 1]? = (vs.map some ++ List.replicate (N.length - (vs.length + 1)) none)[i]? := by simp [L2.start]
      rw [e]
      by_cases hi : i < ds.length
      · rw [List.getElem?_append_left (by simpa using hi), List.getElem?_map] at q
        cases e2 : ds[i]? with
        | none => rw [e2] at q; cases q
        | some d' =>
          rw [e2] at q
          cases q
          obtain ⟨v, h1, h2⟩ := h.get e2
          refine ⟨v, ?_, h2⟩
          rw [List.getElem?_append_left (by rw [List.length_map, h.length]; exact hi), List.getElem?_map, h1]; rfl
      · rw [List.getElem?_append_right (by simpa using hi), List.getElem?_replicate] at q
        split at q <;> cases q
section
variable {p : Addr} {ρ : Rho} {ω : Om} {tr : TA} {S : DS} {T : List PyData → Prop} {pre : List PyData → Prop} {S' : List PyData → DS} {E : XK}
theorem evq_callQ (h : EaQ [p] tr ρ ω T) (hp : ∀ ds, T ds → pre ds ∧ ∀ d, S' ds d → S d) : EvQ [p] (tCall (spQ pre S') [] E (tCons (tVar 0) tr)) ρ ω S := fun ps H0 qs H σ ok Q q => by
  refine ⟨.ref p, (ok.pot p (List.mem_singleton.mpr rfl)).2, h ps H0 qs H σ ok _ fun vs ds H1 sd g1 ok1 hv => ?_⟩
  have mp : p ∈ ps := ok.sub p (List.mem_singleton.mpr rfl)
  refine ⟨p, qs ++ ps, ds, vs, by rw [List.append_nil], List.mem_append_right _ mp, (ok1.pot p (List.mem_singleton.mpr rfl)).1, ok1.alq, hv, (hp ds sd).1, fun v d H2 hd sw pt hv2 => ?_⟩
  have pp : ∀ a ∈ [p], PotAt a H2 := fun a m => by rw [List.mem_singleton.mp m]; exact pt
  exact q v d H2 ((hp ds sd).2 d hd) (g1.trans (ok1.goSw sw pp)) (ok1.sw sw pp) hv2
end
section
variable {P : Program} {w : World} {K : PySem.W.Frag} {mg : Str → Option Value} {base : Heap} {x : Str} {st : Stmt} {N pn : List Str} {k : Nat}
theorem Stands.own {pre : List PyData → Prop} {g : List PyData → PyData} (F : Stands K mg x st pn) (S : FnScope N pn (defScope st)) (len : ∀ ds, pre ds → ds.length = pn.length)
    (h : ∀ (f : Addr) (cdv : Value) (A : Around) (outer : List Env) (s : Shared) (H : Hp) (E : XK), Room k (A.deeper (envOfC x (defScope st) s.heap.objs.size f cdv)) →
      ∃ t, PSs (cxOf CX0 P w K mg base N x (defScope st) f cdv A outer s H E).nox (defBody st) t ∧ ∀ ds, pre ds → SvQ [] t (rho0 N ds) [] (fun d => d = g ds) fun _ _ => False) : Cal P w K mg base x (k + 1) pn (spF pre g) := by
  refine F.cal S (fun vs H Q E ⟨ps, ds, al, hd, hp, _⟩ => by rw [hd.length]; exact len ds hp) fun f cdv A outer s H E hr => ?_
  obtain ⟨t, h1, h2⟩ := h f cdv A outer s H E hr
  refine ⟨t, h1, fun vs Q ⟨ps, ds, al, hd, hp, q⟩ => ?_⟩
  exact h2 ds hp ps H [] H _ _ (start_ok al hd) (fun v d H2 e sw _ hv => q v H2 (fun a o ha => by have := sw a o (hid_of ha fun m => nomatch m); exact (of_hid this).1) (e ▸ hv)) fun _ _ _ _ _ n => n.elim
theorem Stands.pot {pre : List PyData → Prop} {S' : List PyData → DS} (F : Stands K mg x st pn) (S : FnScope N pn (defScope st)) (len : ∀ ds, pre ds → ds.length + 1 = pn.length)
    (h : ∀ (f : Addr) (cdv : Value) (A : Around) (outer : List Env) (s : Shared) (H : Hp) (E : XK), Room k (A.deeper (envOfC x (defScope st) s.heap.objs.size f cdv)) →
      ∃ t, PSs (cxOf CX0 P w K mg base N x (defScope st) f cdv A outer s H E).nox (defBody st) t ∧ ∀ p ds, pre ds → SvQ [p] t (rhoP N ds) [] (S' ds) fun _ _ => False) : Cal P w K mg base x (k + 1) pn (spQ pre S') := by
  refine F.cal S (fun vs H Q E ⟨p, ps, ds, ws, e, mp, pt, al, hd, hp, _⟩ => by rw [e, List.length_cons, hd.length]; exact len ds hp) fun f cdv A outer s H E hr => ?_
  obtain ⟨t, h1, h2⟩ := h f cdv A outer s H E hr
  refine ⟨t, h1, fun vs Q ⟨p, ps, ds, ws, e, mp, pt, al, hd, hp, q⟩ => ?_⟩
  rw [e]
  exact h2 p ds hp ps H [] H _ _ (startP_ok mp pt al hd) (fun v d H2 hs sw pp hv => q v d H2 hs sw (pp p (List.mem_singleton.mpr rfl)) hv) fun _ _ _ _ _ n => n.elim
end
end Pm
namespace Pm
open PySem PySem.Spec PyProof.Rows L2
section
variable {P : Program} {w : World} {K : PySem.W.Frag} {mg : Str → Option Value} {base : Heap} {aS : Addr}

theorem k_sorted {X : Cx} {K : PySem.W.Frag} (h : X.K = K) : CallR X (.builtin "sorted") (rSorted K) := by subst h; exact cr_sorted
theorem ins_perm (x : Nat) : ∀ l : List Nat, (ins x l).Perm (x :: l)
  | [] => List.Perm.refl _
  | y :: r => by
    unfold ins
    split
    · exact List.Perm.refl _
    · exact ((ins_perm x r).cons y).trans (List.Perm.swap x y r)
theorem srt_perm : ∀ l : List Nat, (srt l).Perm l
  | [] => List.Perm.refl _
  | x :: r => (ins_perm x (srt r)).trans ((srt_perm r).cons x)
theorem ins_pair (x : Nat) : ∀ l : List Nat, l.Pairwise (· ≤ ·) → (ins x l).Pairwise (· ≤ ·)
  | [], _ => by simp [ins]
  | y :: r, h => by
    obtain ⟨h1, h2⟩ := List.pairwise_cons.mp h
    unfold ins
    split
    · rename_i hxy
      refine List.pairwise_cons.mpr ⟨fun z m => ?_, h⟩
      rcases List.mem_cons.mp m with e | m
      · omega
      · have := h1 z m; omega
    · refine List.pairwise_cons.mpr ⟨fun z m => ?_, ins_pair x r h2⟩
      rcases mem_ins.mp m with e | m
      · omega
      · exact h1 z m
theorem srt_pair : ∀ l : List Nat, (srt l).Pairwise (· ≤ ·)
  | [] => List.Pairwise.nil
  | x :: r => ins_pair x _ (srt_pair r)
theorem int_same {a b : List Int} (hp : a.Perm b) (ha : a.Pairwise (· ≤ ·)) (hb : b.Pairwise (· ≤ ·)) : a = b := by
  first
    | exact hp.eq_of_pairwise (fun x y _ _ h1 h2 => Int.le_antisymm h1 h2) ha hb
    | exact List.Perm.eq_of_pairwise (fun x y _ _ h1 h2 => Int.le_antisymm h1 h2) ha hb hp
    | exact hp.eq_of_sorted (fun x y _ _ h1 h2 => Int.le_antisymm h1 h2) ha hb
theorem nD_int (l : List Nat) : l.map nD = (l.map fun (n : Nat) => (n : Int)).map .int := by rw [List.map_map]; rfl
theorem en_sorted {te : TE} {ρ : Rho} (l : List Nat) (h : EvD te ρ (.list (l.map nD))) (hl : l.length < 64) : EvN (tCB (rSorted K) (tCons te tNil)) ρ ((srt l).map nD) := fun ps σ H ok Q q => h ps σ H ok _ fun v H1 e1 hv => by
  obtain ⟨a, xs, e2, n, h2, h3⟩ := of_lst hv
  subst e2
  rw [nD_int] at h3
  rw [DtA.ints_inv h3] at h2
  refine ⟨a, l.map fun (n : Nat) => (n : Int), rfl, SqL.of h2, by rw [List.length_map]; exact hl, fun ns' p hp hw np => ?_⟩
  have e : ns' = (srt l).map fun (n : Nat) => (n : Int) := by
    refine int_same (hp.trans ((srt_perm l).map _).symm) hw ?_
    rw [List.pairwise_map]
    exact (srt_pair l).imp fun h => Int.ofNat_le.mpr h
  rw [e]
  refine q p _ _ (e1.free np) (e1.trans (same_upd np)) upd_same ?_
  rw [nD_int]
  exact DtA.ints _
theorem has_nat (l : List Nat) (h : Nat) : (l.map fun (n : Nat) => (n : Int)).contains (h : Int) = l.contains h := by
  induction l with
  | nil => rfl
  | cons a r ih =>
    rw [List.map_cons, List.contains_cons, List.contains_cons, ih]
    congr 1
    by_cases e : h = a
    · subst e; simp
    · have : (h : Int) ≠ (a : Int) := fun z => e (Int.ofNat_inj.mp z)
      rw [beq_eq_false_iff_ne.mpr this, beq_eq_false_iff_ne.mpr e]
theorem rv_ninN {h : Nat} {d : PyData} (l : List Nat) (hs : IsSeq d (l.map nD)) : RvD (rIn K true) (nD h) d (.bool (!l.contains h)) := by
  rw [← has_nat]
  exact rv_ninI _ (by rw [← nD_int]; exact hs)
theorem rv_inN {h : Nat} {d : PyData} (l : List Nat) (hs : IsSeq d (l.map nD)) : RvD (rIn K false) (nD h) d (.bool (l.contains h)) := by
  rw [← has_nat]
  exact rv_inI _ (by rw [← nD_int]; exact hs)
theorem hiTie_app (here : Nat) (x : Nat × Nat) : ∀ (l : List (Nat × Nat)) (ml : List Nat × List Nat), hiTie here (l ++ [x]) ml = hiTie here [x] (hiTie here l ml)
  | [], (m, k) => by simp [hiTie]
  | (lo, h) :: r, (m, k) => by
    have st : ∀ s, hiTie here ((lo, h) :: s) (m, k) = if (lo == here && !m.contains h) = true then hiTie here s (m ++ [h], k ++ [h]) else hiTie here s (m, k) := fun s => rfl
    rw [List.cons_append, st, st]
    split
    · exact hiTie_app here x r _
    · exact hiTie_app here x r _
theorem hiTie_len (here : Nat) : ∀ (l : List (Nat × Nat)) (ml : List Nat × List Nat), (hiTie here l ml).1.length ≤ ml.1.length + l.length ∧ (hiTie here l ml).2.length ≤ ml.2.length + l.length
  | [], (m, k) => by simp [hiTie]
  | (lo, h) :: r, (m, k) => by
    unfold hiTie
    split
    · have := hiTie_len here r (m ++ [h], k ++ [h])
      simp only [List.length_append, List.length_cons, List.length_nil] at this ⊢
      omega
    · have := hiTie_len here r (m, k)
      simp only [List.length_cons] at this ⊢
      omega
def unTie : PyData → Nat × Nat
  | .tuple [a, b] => (natOf a, natOf b)
  | _ => (0, 0)
theorem nat_nD (n : Nat) : natOf (nD n) = n := by simp [natOf, nD]
theorem un_ties (ties : List (Nat × Nat)) : (ties.map tieD).map unTie = ties := by
  rw [List.map_map]
  refine (List.map_congr_left fun p _ => ?_).trans (List.map_id ties)
  show unTie (tieD p) = p
  simp [unTie, tieD, nat_nD]
def hiD (n : Nat) (ties : List (Nat × Nat)) : PyData := .list ((hiOf n ties).map fun l => .list (l.map nD))
def pTops2 (d e : PyData) : Prop := ∃ n ties, (n, ties) ∈ okTops ∧ d = nD n ∧ IsSeq e (ties.map tieD)
def hiF (d e : PyData) : PyData := hiD (natOf d) ((sq e).map unTie)
theorem hiF_is {n : Nat} {ties : List (Nat × Nat)} {e : PyData} (hs : IsSeq e (ties.map tieD)) : hiF (nD n) e = hiD n ties := by unfold hiF; rw [hs.sq, un_ties, nat_nD]
abbrev spHi : Sp := spF (p2 pTops2) (f2 hiF)
theorem tops_small : ∀ nt ∈ okTops, nt.1 ≤ 3 ∧ nt.2.length ≤ 3 := by decide +kernel
theorem svq_parO {ls : List Addr} {ta tb : TE} {ρ : Rho} {ω : Om} {R : DS} {N : Rho → Om → Prop} {tw : TS} {i j : Nat} {ds es : List PyData} (ha : EvN ta ρ ds) (hb : EvN tb ρ es) (hij : i ≠ j) (li : i < ρ.length) (lj : j < ρ.length) (hi : ls = [] ∨ i ≠ 0) (hj : ls = [] ∨ j ≠ 0)
    (fi : ∀ e ∈ ω, e.1 ≠ i) (fj : ∀ e ∈ ω, e.1 ≠ j) (hn : SvQ ls tw ((ρ.set i none).set j none) ((j, es) :: (i, ds) :: ω) R N) : SvQ ls (tSeq (tPar i j (tCons ta (tCons tb tNil))) tw) ρ ω R N := fun ps H0 qs H σ D ok q1 q2 =>
  ha _ σ H ok.ok _ fun p xs H1 np e1 hp hx => by
    have ok1 := ok.seto np e1 hp hx li hi fi
    refine hb (p :: (qs ++ ps)) σ H1 (ok.ok.under e1 np fun z => by rw [hp] at z; cases z) _ fun p2 ys H2 np2 e2 hp2 hy => ⟨.ref p, .ref p2, rfl, ?_⟩
    have fj2 : ∀ e ∈ (i, ds) :: ω, e.1 ≠ j := fun e m => by
      rcases List.mem_cons.mp m with m | m
      · rw [m]; exact hij
      · exact fj e m
    have ok2 := ok1.seto (i := j) np2 e2 hp2 hy (by rw [List.length_set]; exact lj) hj fj2
    refine hn ps H0 (p2 :: p :: qs) H2 _ D ok2 q1 fun qs2 σ2 H3 ρ2 ω2 n g ok3 => q2 qs2 σ2 H3 ρ2 ω2 n
      ((⟨hid_same (e1.trans e2), fun q m => ?_, (Go.of (ps := ps) (qs := qs) (e1.trans e2)).al⟩ : Go ps qs H (p2 :: p :: qs) H2).trans g) ok3
    rcases List.mem_cons.mp m with z | m
    · exact .inr (by rw [z]; exact e1.free np2)
    · rcases List.mem_cons.mp m with z | m
      · exact .inr (by rw [z]; exact np)
      · exact .inl m
theorem svq_app1 {ls : List Addr} {te : TE} {ρ : Rho} {ω : Om} {R : DS} {N : Rho → Om → Prop} {K : PySem.W.Frag} {k i : Nat} {ds : List PyData} {d : PyData} (hk : ω[k]? = some (i, ds)) (h : EvD te ρ d) (hl : ds.length < 100000) (hn : N ρ (ω.set k (i, ds ++ [d]))) : SvQ ls (tDrop (tBM K "list" rAppend (tVar i) (tCons te tNil))) ρ ω R N :=
  svq_app (S := fun e => e = d) hk (evq_of h rfl) hl fun e he => by rw [he]; exact hn
theorem shaped_nat (l : List Nat) : SeqAt.shaped (.list (l.map nD)) = true := shaped_list (n := 0) (fun d m => by
  obtain ⟨x, _, rfl⟩ := List.mem_map.mp m
  exact ⟨by simp [nD, PyData.canLay0], by simp [nD, PyData.depth]⟩) (by decide)
theorem last_get {α : Type} {l : List α} {x : α} (h : l.getLast? = some x) : l[l.length - 1]? = some x := by rw [← List.getLast?_eq_getElem?]; exact h
theorem getLast_none {α : Type} {l : List α} (h : l.getLast? = none) : l = [] := List.getLast?_eq_none_iff.mp h
abbrev N_highs_of_points : List Str := ["many", "ties", "found", "point", "met", "left", "here", "low", "high"]
theorem sc_highs_of_points : FnScope N_highs_of_points ["many", "ties"] (defScope s_highs_of_points) := ⟨rfl, rfl, rfl, by decide +kernel, rfl, by decide +kernel, by decide +kernel⟩
theorem ok_highs_of_points  (T : Txt K mg w aS) (F : Stands K mg "highs_of_points" s_highs_of_points ["many", "ties"])   : Cal P w K mg base "highs_of_points" 1 ["many", "ties"] (spF (p2 pTops2) (f2 hiF)) := by
  have nd := sc_highs_of_points.nd
  refine F.own sc_highs_of_points (fun ds h => ?_) fun f cdv A outer s H E hr => ⟨_, (pss_cons (ps_set (i := 2) nd rfl (by first | exact Or.inl rfl | exact Or.inr rfl) (pe_lst pa_nil))
        (pss_cons (ps_for PassesOwn.never rfl (pi_range1 (by rfl) T.b_range (pa_cons (pv 0) pa_nil)) (pg_name (i := 3) nd rfl (by first | exact Or.inl rfl | exact Or.inr rfl)) (pss_cons (ps_par (i := 4) (j := 5) (by rfl) nd rfl rfl (by decide) rfl rfl (pa_cons (pe_lst pa_nil) (pa_cons (pe_lst (pa_cons (pv 3) pa_nil)) pa_nil)) (by rfl))
        (pss_cons (ps_while PassesOwn.never (pt_cmpR (k_neD (K := K) rfl hr.units) (pv 5) (pe_lst pa_nil) (nomark _)) (pss_cons (ps_set (i := 6) nd rfl (by first | exact Or.inl rfl | exact Or.inr rfl) (pe_bm0 PySem.F.plainAttrs_list PySem.F.slot_list_pop PySem.F.type_list_pop mt_pop (pv 5)))
        (pss_one (ps_for PassesOwn.never rfl (k_pe (K := K) rfl (pv 1)) (k_gt (K := K) rfl rfl (pgs_cons (pg_name (i := 7) nd rfl (by first | exact Or.inl rfl | exact Or.inr rfl)) (pgs_cons (pg_name (i := 8) nd rfl (by first | exact Or.inl rfl | exact Or.inr rfl)) pgs_nil))) (pss_one (ps_if (PW.pt (pw_and (pt_cmpR op_eq (pv 7) (pv 6) (nomark _)) (pw_and1 (pt_cmpR (k_nin (K := K) rfl) (pv 8) (pv 4) (by rfl))))) (pss_cons (ps_expr (pe_bm PySem.F.plainAttrs_list PySem.F.slot_list_append PySem.F.type_list_append mt_append (pv 4) (pa_cons (pv 8) pa_nil)))
        (pss_one (ps_expr (pe_bm PySem.F.plainAttrs_list PySem.F.slot_list_append PySem.F.type_list_append mt_append (pv 5) (pa_cons (pv 8) pa_nil))))) pss_nil))))))
        (pss_one (ps_expr (pe_bm PySem.F.plainAttrs_list PySem.F.slot_list_append PySem.F.type_list_append mt_append (pv 2) (pa_cons (pe_callB (k_sorted (K := K) rfl) (by rfl) T.b_sorted bt_sorted (pa_cons (pv 4) pa_nil)) pa_nil)))))))
        (pss_one (ps_ret (pv 2))))), fun ds h => ?_⟩
  · exact p2_len h
  · obtain ⟨d, e, rfl, n, ties, ht, rfl, hs⟩ := h
    obtain ⟨n3, t3⟩ := tops_small _ ht
    have n3 : n ≤ 3 := n3
    have t3 : ties.length ≤ 3 := t3
    show SvQ [] _ [some (nD n), some e, none, none, none, none, none, none, none] [] (fun d => d = hiF (nD n) e) _
    rw [hiF_is hs]
    refine svq_own (ds := []) (en_lst ea_nil (by decide)) (by simp) (.inl rfl) (fun _ m => nomatch m) ?_
    refine svq_seq (N := fun a b => a = [some (nD n), some e, none, none, none, none, none, none, none] ∧ b = [(2, (List.range n).map fun p => .list ((hiAt ties p).map nD))]) (svq_for (vs := [3]) (List.range n) nD
      (fun i a b => a = [some (nD n), some e, none, none, none, none, none, none, none] ∧ b = [(2, (List.range i).map fun p => .list ((hiAt ties p).map nD))]) (fun p ρ => ρ.set 3 (some (nD p)))
      (is_rangeN (ea_one (ev_var rfl)) (by omega)) ⟨rfl, rfl⟩ (fun i x a b hx ⟨ea, eb⟩ => ⟨gt_name (by decide), by rw [eb]; simp⟩) (.inl rfl) (fun i x a b hx ⟨ea, eb⟩ => ?_) (fun a b ⟨ea, eb⟩ => ⟨ea, by rw [eb, List.length_range]⟩)) fun a b ⟨ea, eb⟩ => ?_
    · subst ea eb
      have hxi : x = i := by
        obtain ⟨l, g⟩ := List.getElem?_eq_some_iff.mp hx
        rw [List.getElem_range] at g; exact g.symm
      subst hxi
      have hxn : x < n := by
        obtain ⟨l, g⟩ := List.getElem?_eq_some_iff.mp hx
        rwa [List.length_range] at l
      obtain ⟨s1, -, -, -⟩ := hi_ok _ ht x (List.mem_range.mpr hxn)
      obtain ⟨res, hres⟩ := Option.isSome_iff_exists.mp s1
      have hat : hiAt ties x = srt res := by unfold hiAt; rw [show hiRun ties 20 [] [x] = some res from hres]; rfl
      refine svq_less (svq_parO (ds := []) (es := [nD x]) (en_lst ea_nil (by decide)) (en_lst (ea_one (ev_var rfl)) (by simp)) (by decide) (by simp) (by simp) (.inl rfl) (.inl rfl) (by simp) (by simp) ?_)
      refine svq_seq (N := fun a b => a = [some (nD n), some e, none, some (nD x), none, none, none, none, none] ∧ b = [(5, []), (4, res.map nD), (2, (List.range x).map fun p => .list ((hiAt ties p).map nD))] ∧ res.length ≤ 60) (svq_while (n := 20)
        (fun f a b => ∃ m l, hiRun ties f m l = some res ∧ m.length + 3 * f ≤ 60 ∧ l.length + 3 * f ≤ 61 ∧ a = [some (nD n), some e, none, some (nD x), none, none, none, none, none] ∧ b = [(5, l.map nD), (4, m.map nD), (2, (List.range x).map fun p => .list ((hiAt ties p).map nD))])
        ⟨[], [x], hres, by simp, by simp, rfl, rfl⟩ fun f a b ⟨m, l, hr', hm, hl, ea, eb⟩ => ?_) fun a b ⟨ea, eb, hz⟩ => ?_
      · subst ea eb
        refine ⟨_, et_test (ev_op (d := .list (l.map nD)) (ev_var rfl) (EvN.toD (en_lst ea_nil (by decide))) (rv_neD (shaped_nat l) shaped_nil)), ?_⟩
        rw [eqv_nil]
        cases f with
        | zero => simp [hiRun] at hr'
        | succ f =>
          unfold hiRun at hr'
          cases hg : l.getLast? with
          | none =>
            rw [hg] at hr'
            have := getLast_none hg
            subst this
            cases hr'
            exact ⟨fun z => (nomatch z), fun _ => ⟨rfl, rfl, by omega⟩⟩
          | some here =>
            rw [hg] at hr'
            have hr' : hiRun ties f (hiTie here ties (m, l.dropLast)).1 (hiTie here ties (m, l.dropLast)).2 = some res := hr'
            refine ⟨fun _ => ?_, fun z => ?_⟩
            · have h1 : (l.map nD)[(l.map nD).length - 1]? = some (nD here) := by
                rw [List.length_map, List.getElem?_map, last_get hg]; rfl
              have hl1 : 1 ≤ l.length := by
                cases l with
                | nil => simp at hg
                | cons _ _ => simp
              refine svq_seq1 (svq_pop (k := 0) (vs := [6]) rfl h1 (gt_name (by decide)) (.inl rfl) (by simp) ⟨rfl, rfl⟩) ?_
              refine svq_imp (svq_less (ρ0 := [some (nD n), some e, none, some (nD x), none, none, none, none, none]) (ω' := [(5, (hiTie here ties (m, l.dropLast)).2.map nD), (4, (hiTie here ties (m, l.dropLast)).1.map nD), (2, (List.range x).map fun p => .list ((hiAt ties p).map nD))]) (svq_for (vs := [7, 8]) ties tieD
                (fun i a b => a = [some (nD n), some e, none, some (nD x), none, none, some (nD here), none, none] ∧ b = [(5, (hiTie here (ties.take i) (m, l.dropLast)).2.map nD), (4, (hiTie here (ties.take i) (m, l.dropLast)).1.map nD), (2, (List.range x).map fun p => .list ((hiAt ties p).map nD))])
                (fun p ρ => (ρ.set 7 (some (nD p.1))).set 8 (some (nD p.2))) (is_either rfl hs) ⟨rfl, by simp only [List.take_zero, hiTie, List.set_cons_zero, List.map_dropLast]⟩ (fun i p a b hp ⟨ea, eb⟩ => ⟨gt_two (by decide) (by decide), by rw [eb]; simp⟩) (.inl rfl) (fun i p a b hp ⟨ea, eb⟩ => ?_)
                (fun a b ⟨ea, eb⟩ => ⟨by subst ea; (repeat first | exact Rle.nil | refine Rle.same ?_ | refine Rle.drop ?_), by rw [eb, List.take_length]⟩))) (fun _ h => h) fun a b ⟨ea, eb⟩ => ⟨f, Nat.lt_succ_self f, _, _, hr', ?_, ?_, ea, eb⟩
              · subst ea eb
                obtain ⟨lo, h⟩ := p
                have st : ties.take (i + 1) = ties.take i ++ [(lo, h)] := by rw [List.take_add_one, hp]; rfl
                have lm : (ties.take i).length ≤ 3 := by rw [List.length_take]; omega
                have g := hiTie_len here (ties.take i) (m, l.dropLast)
                rw [st, hiTie_app]
                revert g
                generalize hiTie here (ties.take i) (m, l.dropLast) = ml
                obtain ⟨mm, ll⟩ := ml
                intro g
                simp only [List.length_dropLast] at g
                obtain ⟨g1, g2⟩ := g
                have g1 : mm.length ≤ m.length + (ties.take i).length := g1
                have g2 : ll.length ≤ l.length - 1 + (ties.take i).length := g2
                refine svq_less (svq_if (B := fun b => b = (lo == here && !mm.contains h)) (etq_fr (et_and (et_test (ev_op (ev_var rfl) (ev_var rfl) rv_eqI)) fun _ => et_test (ev_op (ev_var rfl) (ev_var rfl) (rv_ninN mm (.l _)))) ?_) (fun hb => ?_) (fun hb => ?_))
                · show (decide ((lo : Int) = (here : Int)) && _) = _
                  congr 1
                  by_cases z : lo = here
                  · subst z; simp
                  · have : ¬ ((lo : Int) = (here : Int)) := fun y => z (Int.ofNat_inj.mp y)
                    simp [z, this]
                · have e2 : hiTie here [(lo, h)] (mm, ll) = (mm ++ [h], ll ++ [h]) := by simp only [hiTie]; rw [if_pos hb.symm]
                  rw [e2]
                  refine svq_seq1 (svq_app1 (k := 1) (i := 4) (ds := mm.map nD) (d := nD h) rfl (ev_var rfl) (by rw [List.length_map]; omega) ⟨rfl, rfl⟩) (svq_app1 (k := 0) (i := 5) (ds := ll.map nD) (d := nD h) rfl (ev_var rfl) (by rw [List.length_map]; omega) ?_)
                  exact ⟨by (repeat first | exact Rle.nil | refine Rle.same ?_ | refine Rle.drop ?_), by simp⟩
                · have e2 : hiTie here [(lo, h)] (mm, ll) = (mm, ll) := by simp only [hiTie]; rw [if_neg (by rw [← hb]; exact Bool.false_ne_true)]
                  rw [e2]
                  exact svq_next ⟨by (repeat first | exact Rle.nil | refine Rle.same ?_ | refine Rle.drop ?_), rfl⟩
              · have := (hiTie_len here ties (m, l.dropLast)).1
                have : (hiTie here ties (m, l.dropLast)).1.length ≤ m.length + ties.length := this
                omega
              · have := (hiTie_len here ties (m, l.dropLast)).2
                simp only [List.length_dropLast] at this
                omega
            · cases l with
              | nil => simp at hg
              | cons _ _ => simp at z
      · subst ea eb
        refine svq_freeze (svq_freeze (svq_app (k := 0) (S := fun d => d = .list ((hiAt ties x).map nD)) rfl (evq_of (EvN.toD (en_sorted res (ev_var rfl) (by omega))) ?_) (by rw [List.length_map, List.length_range]; omega) fun d hd => ?_))
        · rw [hat]
        · subst hd
          exact ⟨by (repeat first | exact Rle.nil | refine Rle.same ?_ | refine Rle.drop ?_), by rw [List.range_succ]; simp⟩
    · subst ea eb
      refine svq_retO (d := hiD n ties) (ev_var ?_) rfl
      simp [froz, hiD, hiOf, List.map_map, Function.comp_def]
end
end Pm
namespace Pm
open PySem PySem.Spec PyProof.Rows L2
section
variable {P : Program} {w : World} {K : PySem.W.Frag} {mg : Str → Option Value} {base : Heap} {aS : Addr}

abbrev spTie : Sp := spF (p2 fun d e => ∃ n a b, a < n ∧ b < n ∧ d = nD n ∧ e = tieD (a, b)) fun _ => .bool true
theorem nD_cnt (n : Nat) : isCnt (nD n) = true := by simp [isCnt, nD]
abbrev N_is_tie : List Str := ["many", "value", "point"]
theorem sc_is_tie : FnScope N_is_tie ["many", "value"] (defScope s_is_tie) := ⟨rfl, rfl, rfl, by decide +kernel, rfl, by decide +kernel, by decide +kernel⟩
theorem ok_is_tie  (T : Txt K mg w aS) (F : Stands K mg "is_tie" s_is_tie ["many", "value"]) (C_is_count : Cal P w K mg base "is_count" 2 ["value"] (spCnt))  : Cal P w K mg base "is_tie" 3 ["many", "value"] (spF (p2 fun d e => ∃ n a b, a < n ∧ b < n ∧ d = nD n ∧ e = tieD (a, b)) (fun _ => .bool true)) := by
  have nd := sc_is_tie.nd
  refine F.pure sc_is_tie (fun ds h => ?_) fun f cdv A outer s H E hr => ⟨_, (pss_one (ps_ret (pe_and (pe_callB (k_isi (K := K) rfl) (by rfl) T.b_isinstance bt_isinstance (pa_cons (pv 1) (pa_cons (pe_bltn (v := .ty "tuple") (by rfl) T.b_tuple bt_tuple rfl) pa_nil))) (pe_and (pe_cmpR op_eq (pe_callB (k_len (K := K) rfl) (by rfl) T.b_len bt_len (pa_cons (pv 1) pa_nil)) pe_int (nomark _)) (pe_one (pe_callB (k_all (K := K) rfl rfl) (by rfl) T.b_all bt_all (pa_cons (pe_lc (own := [("point", 2)]) (by rfl) nd (k_pe (K := K) rfl (pv 1)) (blkOk_by (N := N_is_tie) (sc := (defScope s_is_tie)) (own := [("point", 2)]) (by decide +kernel)) (fun _ _ _ _ _ => (pg_name (i := 2) nd rfl (by first | exact Or.inl rfl | exact Or.inr rfl))) (fun _ _ _ _ _ => pts_nil) (fun _ _ _ _ _ => (pe_and (pe_cal C_is_count hr (by omega) (by rfl) (pa_cons (pv 2) pa_nil)) (pe_one (pe_cmpR op_lt (pv 2) (pv 0) (nomark _)))))) pa_nil))))))), fun ds h => ?_⟩
  · exact p2_len h
  · obtain ⟨d, e, rfl, n, a, b, ha, hb, rfl, rfl⟩ := h
    refine sv_ret (ev_andT (ev_isi (ev_var rfl) (kit_tup rfl)) (ev_andT (ev_op (ev_cb (ea_one (ev_var rfl)) rc_lenT) ev_int rv_eqI) ?_))
    refine (ev_cb (ea_one (EvN.toD (en_lc1 [a, b] nD (fun x => .bool true) (fun c => _) (is_either rfl (.t _)) (by simp) (fun _ _ => gt_name (List.mem_singleton.mpr rfl)) fun x hm => ?_))) (rc_all [true, true] rfl))
    refine (ev_andT (ev_callIs (d := .bool true) (ea_one (ev_var rfl)) ⟨_, rfl, rfl⟩ (congrArg PyData.bool (nD_cnt x))) (ev_op (ev_var rfl) (ev_var rfl) rv_B)).is ?_
    have : x < n := by
      simp at hm
      rcases hm with h | h <;> omega
    rw [decide_eq_true (show (x : Int) < (n : Int) by omega)]
theorem tops_ok : ∀ nt ∈ okTops, nt.1 ≤ 3 ∧ nt.2.length ≤ 3 ∧ (∀ p ∈ nt.2, p.1 < nt.1 ∧ p.2 < nt.1) := by decide +kernel
theorem hiOf_get {n : Nat} {ties : List (Nat × Nat)} {p : Nat} (h : p < n) : ((hiOf n ties).map fun l => PyData.list (l.map nD))[p]? = some (.list ((hiAt ties p).map nD)) := by
  unfold hiOf
  rw [List.getElem?_map, List.getElem?_map, List.getElem?_range h]; rfl
abbrev spTies : Sp := spF (p2 pTops2) fun _ => .bool true
abbrev N_are_ties : List Str := ["many", "value", "tie", "highs", "point"]
theorem sc_are_ties : FnScope N_are_ties ["many", "value"] (defScope s_are_ties) := ⟨rfl, rfl, rfl, by decide +kernel, rfl, by decide +kernel, by decide +kernel⟩
theorem ok_are_ties  (T : Txt K mg w aS) (F : Stands K mg "are_ties" s_are_ties ["many", "value"]) (C_is_list : Cal P w K mg base "is_list" 1 ["value"] (spIsList)) (C_is_tie : Cal P w K mg base "is_tie" 3 ["many", "value"] (spTie)) (C_highs_of_points : Cal P w K mg base "highs_of_points" 1 ["many", "ties"] (spHi))  : Cal P w K mg base "are_ties" 4 ["many", "value"] (spF (p2 pTops2) (fun _ => .bool true)) := by
  have nd := sc_are_ties.nd
  refine F.pure sc_are_ties (fun ds h => ?_) fun f cdv A outer s H E hr => ⟨_, (pss_cons (ps_if (PW.pt (pw_or (pt_not (pt_val (pe_cal C_is_list hr (by omega) (by rfl) (pa_cons (pv 1) pa_nil)))) (pw_or (pt_cmpR op_gt (pe_callB (k_len (K := K) rfl) (by rfl) T.b_len bt_len (pa_cons (pv 1) pa_nil)) (pe_gint (by rfl) T.MOST_TIES) (nomark _)) (pw_or1 (pt_not (pt_val (pe_callB (k_all (K := K) rfl rfl) (by rfl) T.b_all bt_all (pa_cons (pe_lc (own := [("tie", 2)]) (by rfl) nd (k_pe (K := K) rfl (pv 1)) (blkOk_by (N := N_are_ties) (sc := (defScope s_are_ties)) (own := [("tie", 2)]) (by decide +kernel)) (fun _ _ _ _ _ => (pg_name (i := 2) nd rfl (by first | exact Or.inl rfl | exact Or.inr rfl))) (fun _ _ _ _ _ => pts_nil) (fun _ _ _ _ _ => (pe_cal C_is_tie hr (by omega) (by rfl) (pa_cons (pv 0) (pa_cons (pv 2) pa_nil))))) pa_nil)))))))) (pss_one (ps_ret pe_bl)) pss_nil)
        (pss_cons (ps_set (i := 3) nd rfl (by first | exact Or.inl rfl | exact Or.inr rfl) (pe_cal C_highs_of_points hr (by omega) (by rfl) (pa_cons (pv 0) (pa_cons (pv 1) pa_nil))))
        (pss_one (ps_ret (pe_not (pe_callB (k_any (K := K) rfl rfl) (by rfl) T.b_any bt_any (pa_cons (pe_lc (own := [("point", 4)]) (by rfl) nd (pi_range1 (by rfl) T.b_range (pa_cons (pv 0) pa_nil)) (blkOk_by (N := N_are_ties) (sc := (defScope s_are_ties)) (own := [("point", 4)]) (by decide +kernel)) (fun _ _ _ _ _ => (pg_name (i := 4) nd rfl (by first | exact Or.inl rfl | exact Or.inr rfl))) (fun _ _ _ _ _ => pts_nil) (fun _ _ _ _ _ => (pe_cmpR (k_in (K := K) rfl) (pv 4) (pe_ix (k_ix (K := K) rfl) (pv 3) (pv 4) (fun _ _ => rfl)) (by rfl)))) pa_nil))))))), fun ds h => ?_⟩
  · exact p2_len h
  · obtain ⟨d, e, rfl, n, ties, ht, rfl, hs⟩ := h
    obtain ⟨n3, t3, tb⟩ := tops_ok _ ht
    have n3 : n ≤ 3 := n3
    have t3 : ties.length ≤ 3 := t3
    have nde : noDict e = true := by cases hs <;> rfl
    refine sv_whenF (et_orF (et_notT (et_B (ev_callIs (ea_one (ev_var rfl)) ⟨_, rfl, nde⟩ (by show PyData.bool (seqOf e).isSome = .bool true; rw [hs.of]; rfl)))) (et_orF ((et_test (ev_op (ev_cb (ea_one (ev_var rfl)) (rc_len hs)) ev_int rv_B)).is ?_) (et_notT ((et_B (ev_cb (ea_one (EvN.toD (en_lc1 ties tieD (fun x => .bool true) (fun c => _) (is_either rfl hs) (by omega) (fun _ _ => gt_name (List.mem_singleton.mpr rfl)) fun x hm => ?_))) (rc_all (ties.map fun _ => true) (by rw [List.map_map]; rfl)))).is ?_)))) ?_
    · rw [List.length_map]
      exact decide_eq_false (by omega)
    · exact ev_callIs (ea_two (ev_var rfl) (ev_var rfl)) ⟨_, _, rfl, n, x.1, x.2, (tb x hm).1, (tb x hm).2, rfl, rfl⟩ rfl
    · rw [all_map_id]; simp
    · refine sv_asg (ev_callIs (ea_two (ev_var rfl) (ev_var rfl)) ⟨_, _, rfl, n, ties, ht, rfl, hs⟩ (hiF_is hs)) ?_
      refine sv_ret (ev_notF ((ev_cb (ea_one (EvN.toD (en_lc1 (List.range n) nD (fun x => .bool false) (fun c => _) (is_rangeN (ea_one (ev_var rfl)) (by omega)) (by rw [List.length_range]; omega) (fun _ _ => gt_name (List.mem_singleton.mpr rfl)) fun x hm => ?_))) (rc_any ((List.range n).map fun _ => false) (by rw [List.map_map]; rfl))).is ?_))
      · refine (ev_op (ev_var rfl) (ev_op (ev_var rfl) (ev_var rfl) (rv_ixL (hiOf_get (List.mem_range.mp hm)))) (rv_inN _ (.l _))).is ?_
        rw [(hi_ok _ ht x hm).2.2.2]
      · rw [any_map_id]; simp
def lhD (n : Nat) (ties : List (Nat × Nat)) : PyData := .list ((lhOf n ties).map fun l => .list (l.map nD))
def lhF (d e : PyData) : PyData := lhD (natOf d) ((sq e).map unTie)
theorem lhF_is {n : Nat} {ties : List (Nat × Nat)} {e : PyData} (hs : IsSeq e (ties.map tieD)) : lhF (nD n) e = lhD n ties := by unfold lhF; rw [hs.sq, un_ties, nat_nD]
abbrev spLh : Sp := spF (p2 pTops2) (f2 lhF)
/-- x, y = d, [..] as a tuple that is made and read again -/
theorem svq_tupDO {ls : List Addr} {K : PySem.W.Frag} {ta tb : TE} {ρ : Rho} {ω : Om} {R : DS} {N : Rho → Om → Prop} {i j : Nat} {d : PyData} {es : List PyData} (ha : EvD ta ρ d) (hb : EvN tb ρ es) (hij : i ≠ j) (lj : j < ρ.length) (hi : ls = [] ∨ i ≠ 0) (hj : ls = [] ∨ j ≠ 0)
    (fi : ∀ e ∈ ω, e.1 ≠ i) (fj : ∀ e ∈ ω, e.1 ≠ j) (hn : N ((ρ.set i (some d)).set j none) ((j, es) :: ω)) : SvQ ls (tAsg (tTup (tCons ta (tCons tb tNil))) (gTup K 2 (gCons (gName i) (gCons (gName j) gNil)))) ρ ω R N := fun ps H0 qs H σ D ok q1 q2 =>
  ha _ σ H ok.ok _ fun v H1 e1 hv => hb _ σ H1 (ok.ok.mono e1) _ fun p2 ys H2 np2 e2 hp2 hy => by
    refine ⟨by show 2 ≤ sizeLine; decide, fun p3 np3 => ?_⟩
    have e3 : Same H2 (upd H2 p3 (.tup [v, .ref p2])) := same_upd np3
    have e4 : Same H1 (upd H2 p3 (.tup [v, .ref p2])) := e2.trans e3
    refine ⟨p3, [v, .ref p2], rfl, SqT.of upd_same, rfl, v, [.ref p2], rfl, .ref p2, [], rfl, rfl, ?_⟩
    have ok1 := (ok.mono e1).setv hv hi fi
    have ok2 := ok1.seto (i := j) np2 e4 (e3 _ _ hp2) (hy.mono (hid_same e3)) (by rw [List.length_set]; exact lj) hj fj
    refine q2 (p2 :: qs) _ _ _ _ hn ⟨hid_same (e1.trans e4), fun q m => ?_, (Go.of (ps := ps) (qs := qs) (e1.trans e4)).al⟩ ok2
    rcases List.mem_cons.mp m with z | m
    · exact .inr (by rw [z]; exact e1.free np2)
    · exact .inl m
theorem eqN (a b : Nat) : decide ((a : Int) = (b : Int)) = (a == b) := by
  by_cases z : a = b
  · subst z; simp
  · have : ¬ ((a : Int) = (b : Int)) := fun y => z (Int.ofNat_inj.mp y)
    simp [z, this]
theorem lhMore_len (ties : List (Nat × Nat)) (here : Nat) (m : List Nat) : (lhMore ties here m).length ≤ ties.length := by unfold lhMore; rw [List.length_map]; exact List.length_filter_le _ _
abbrev N__law_higher : List Str := ["_law_many", "_law_ties", "_law_found", "_law_point", "_law_met", "_law_left", "_law_here", "_law_more", "_law_low", "_law_high"]
theorem sc__law_higher : FnScope N__law_higher ["_law_many", "_law_ties"] (defScope s__law_higher) := ⟨rfl, rfl, rfl, by decide +kernel, rfl, by decide +kernel, by decide +kernel⟩
theorem ok__law_higher  (T : Txt K mg w aS) (F : Stands K mg "_law_higher" s__law_higher ["_law_many", "_law_ties"])   : Cal P w K mg base "_law_higher" 1 ["_law_many", "_law_ties"] (spF (p2 pTops2) (f2 lhF)) := by
  have nd := sc__law_higher.nd
  refine F.own sc__law_higher (fun ds h => ?_) fun f cdv A outer s H E hr => ⟨_, (pss_cons (ps_set (i := 2) nd rfl (by first | exact Or.inl rfl | exact Or.inr rfl) (pe_lst pa_nil))
        (pss_cons (ps_for PassesOwn.never rfl (pi_range1 (by rfl) T.b_range (pa_cons (pv 0) pa_nil)) (pg_name (i := 3) nd rfl (by first | exact Or.inl rfl | exact Or.inr rfl)) (pss_cons (ps_asg (pe_tup (pa_cons (pe_lst pa_nil) (pa_cons (pe_lst (pa_cons (pv 3) pa_nil)) pa_nil))) (k_gt (n := 2) (K := K) rfl rfl (pgs_cons (pg_name (i := 4) nd rfl (by first | exact Or.inl rfl | exact Or.inr rfl)) (pgs_cons (pg_name (i := 5) nd rfl (by first | exact Or.inl rfl | exact Or.inr rfl)) pgs_nil))))
        (pss_cons (ps_while PassesOwn.never (pt_cmpR (k_neD (K := K) rfl hr.units) (pv 5) (pe_lst pa_nil) (nomark _)) (pss_cons (ps_set (i := 6) nd rfl (by first | exact Or.inl rfl | exact Or.inr rfl) (pe_bm0 PySem.F.plainAttrs_list PySem.F.slot_list_pop PySem.F.type_list_pop mt_pop (pv 5)))
        (pss_cons (ps_setLc (i := 7) (own := [("_law_low", 8), ("_law_high", 9)]) (by rfl) nd rfl rfl (sw_true rfl rfl rfl (by decide +kernel)) (k_pe (K := K) rfl (pv 1)) (blkOk_by (N := N__law_higher) (sc := (defScope s__law_higher)) (own := [("_law_low", 8), ("_law_high", 9)]) (by decide +kernel)) (fun _ _ _ _ _ => (k_gt (n := 2) (K := K) rfl rfl (pgs_cons (pg_name (i := 8) nd rfl (by first | exact Or.inl rfl | exact Or.inr rfl)) (pgs_cons (pg_name (i := 9) nd rfl (by first | exact Or.inl rfl | exact Or.inr rfl)) pgs_nil)))) (fun _ _ _ _ _ => (pts_one (PW.pt (pw_and (pt_cmpR op_eq (pv 8) (pv 6) (nomark _)) (pw_and1 (pt_cmpR (k_nin (K := K) rfl) (pv 9) (pv 4) (by rfl))))))) (fun _ _ _ _ _ => (pv 9)))
        (pss_one (ps_asg (pe_tup (pa_cons (pe_op op_cat (pv 4) (pv 7)) (pa_cons (pe_op op_cat (pv 5) (pv 7)) pa_nil))) (k_gt (n := 2) (K := K) rfl rfl (pgs_cons (pg_name (i := 4) nd rfl (by first | exact Or.inl rfl | exact Or.inr rfl)) (pgs_cons (pg_name (i := 5) nd rfl (by first | exact Or.inl rfl | exact Or.inr rfl)) pgs_nil))))))))
        (pss_one (ps_expr (pe_bm PySem.F.plainAttrs_list PySem.F.slot_list_append PySem.F.type_list_append mt_append (pv 2) (pa_cons (pv 4) pa_nil)))))))
        (pss_one (ps_ret (pv 2))))), fun ds h => ?_⟩
  · exact p2_len h
  · obtain ⟨d, e, rfl, n, ties, ht, rfl, hs⟩ := h
    obtain ⟨n3, t3⟩ := tops_small _ ht
    have n3 : n ≤ 3 := n3
    have t3 : ties.length ≤ 3 := t3
    show SvQ [] _ [some (nD n), some e, none, none, none, none, none, none, none, none] [] (fun d => d = lhF (nD n) e) _
    rw [lhF_is hs]
    refine svq_own (ds := []) (en_lst ea_nil (by decide)) (by simp) (.inl rfl) (fun _ m => nomatch m) ?_
    refine svq_seq (N := fun a b => a = [some (nD n), some e, none, none, none, none, none, none, none, none] ∧ b = [(2, (List.range n).map fun p => .list ((lhAt ties p).map nD))]) (svq_for (vs := [3]) (List.range n) nD
      (fun i a b => a = [some (nD n), some e, none, none, none, none, none, none, none, none] ∧ b = [(2, (List.range i).map fun p => .list ((lhAt ties p).map nD))]) (fun p ρ => ρ.set 3 (some (nD p)))
      (is_rangeN (ea_one (ev_var rfl)) (by omega)) ⟨rfl, rfl⟩ (fun i x a b hx ⟨ea, eb⟩ => ⟨gt_name (by decide), by rw [eb]; simp⟩) (.inl rfl) (fun i x a b hx ⟨ea, eb⟩ => ?_) (fun a b ⟨ea, eb⟩ => ⟨ea, by rw [eb, List.length_range]⟩)) fun a b ⟨ea, eb⟩ => ?_
    · subst ea eb
      have hxi : x = i := by
        obtain ⟨l, g⟩ := List.getElem?_eq_some_iff.mp hx
        rw [List.getElem_range] at g; exact g.symm
      subst hxi
      have hxn : x < n := by
        obtain ⟨l, g⟩ := List.getElem?_eq_some_iff.mp hx
        rwa [List.length_range] at l
      obtain ⟨-, s1, -, -⟩ := hi_ok _ ht x (List.mem_range.mpr hxn)
      obtain ⟨res, hres⟩ := Option.isSome_iff_exists.mp s1
      have hat : lhAt ties x = res := by unfold lhAt; rw [show lhRun ties 20 [] [x] = some res from hres]; rfl
      refine svq_less (svq_seq1 (svq_tupDO (K := K) (d := .list []) (es := [nD x]) (EvN.toD (en_lst ea_nil (by decide))) (en_lst (ea_one (ev_var rfl)) (by simp)) (by decide) (by simp) (.inl rfl) (.inl rfl) (by simp) (by simp) ⟨rfl, rfl⟩) ?_)
      refine svq_seq (N := fun a b => a = [some (nD n), some e, none, some (nD x), some (.list (res.map nD)), none, none, none, none, none] ∧ b = [(5, []), (2, (List.range x).map fun p => .list ((lhAt ties p).map nD))]) (svq_while (n := 20)
        (fun f a b => ∃ m l, lhRun ties f m l = some res ∧ m.length + 3 * f ≤ 60 ∧ l.length + 3 * f ≤ 61 ∧ a = [some (nD n), some e, none, some (nD x), some (.list (m.map nD)), none, none, none, none, none] ∧ b = [(5, l.map nD), (2, (List.range x).map fun p => .list ((lhAt ties p).map nD))])
        ⟨[], [x], hres, by simp, by simp, rfl, rfl⟩ fun f a b ⟨m, l, hr', hm, hl, ea, eb⟩ => ?_) fun a b ⟨ea, eb⟩ => ?_
      · subst ea eb
        refine ⟨_, et_test (ev_op (d := .list (l.map nD)) (ev_var rfl) (EvN.toD (en_lst ea_nil (by decide))) (rv_neD (shaped_nat l) shaped_nil)), ?_⟩
        rw [eqv_nil]
        cases f with
        | zero => simp [lhRun] at hr'
        | succ f =>
          unfold lhRun at hr'
          cases hg : l.getLast? with
          | none =>
            rw [hg] at hr'
            have := getLast_none hg
            subst this
            cases hr'
            exact ⟨fun z => (nomatch z), fun _ => ⟨rfl, rfl⟩⟩
          | some here =>
            rw [hg] at hr'
            have hr' : lhRun ties f (m ++ lhMore ties here m) (l.dropLast ++ lhMore ties here m) = some res := hr'
            have hlm := lhMore_len ties here m
            refine ⟨fun _ => ?_, fun z => ?_⟩
            · have h1 : (l.map nD)[(l.map nD).length - 1]? = some (nD here) := by
                rw [List.length_map, List.getElem?_map, last_get hg]; rfl
              have hl1 : 1 ≤ l.length := by
                cases l with
                | nil => simp at hg
                | cons _ _ => simp
              refine svq_seq1 (svq_pop (k := 0) (vs := [6]) rfl h1 (gt_name (by decide)) (.inl rfl) (by simp) ⟨rfl, rfl⟩) ?_
              refine svq_asg (S := fun d => d = .list ((lhMore ties here m).map nD)) (evq_of (EvN.toD (en_lc ties tieD (fun p => p.1 == here && !m.contains p.2) (fun p => nD p.2) (fun p => _) (is_either rfl hs) (by omega) (fun p hp => gt_two (by decide) (by decide)) (fun p hp => (et_and (et_test (ev_op (ev_var rfl) (ev_var rfl) rv_eqI)) fun _ => et_test (ev_op (ev_var rfl) (ev_var rfl) (rv_ninN m (.l _)))).is ?_) fun p hp hb => ev_var rfl)) ?_) (.inl rfl) (by simp) fun d hd => ?_
              · rw [eqN]
              · unfold lhMore; rw [List.map_map]; rfl
              subst hd
              show SvQ [] _ [some (nD n), some e, none, some (nD x), some (.list (m.map nD)), none, some (nD here), some (.list ((lhMore ties here m).map nD)), none, none] [(5, (l.map nD).dropLast), (2, (List.range x).map fun p => .list ((lhAt ties p).map nD))] _ _
              refine svq_freeze ?_
              refine svq_imp (svq_less (ρ0 := [some (nD n), some e, none, some (nD x), some (.list ((m ++ lhMore ties here m).map nD)), none, none, none, none, none]) (ω' := [(5, (l.dropLast ++ lhMore ties here m).map nD), (2, (List.range x).map fun p => .list ((lhAt ties p).map nD))])
                (svq_tupDO (K := K) (d := .list (m.map nD ++ (lhMore ties here m).map nD)) (es := (l.map nD).dropLast ++ (lhMore ties here m).map nD) (EvN.toD (en_cat (ev_var rfl) (ev_var rfl) (by rw [List.length_map, List.length_map]; omega))) (en_cat (ev_var rfl) (ev_var rfl) (by rw [List.length_dropLast, List.length_map, List.length_map]; omega)) (by decide) (by simp) (.inl rfl) (.inl rfl) (by simp) (by simp) ?_))
                (fun _ h => h) fun a b ⟨ea, eb⟩ => ⟨f, Nat.lt_succ_self f, _, _, hr', by rw [List.length_append]; omega, by rw [List.length_append, List.length_dropLast]; omega, ea, eb⟩
              refine ⟨?_, by rw [List.map_append, List.map_dropLast]⟩
              rw [List.map_append]
              exact (by (repeat first | exact Rle.nil | refine Rle.same ?_ | refine Rle.drop ?_))
            · cases l with
              | nil => simp at hg
              | cons _ _ => simp at z
      · subst ea eb
        refine svq_freeze (svq_app1 (k := 0) (i := 2) (d := .list (res.map nD)) rfl (ev_var rfl) (by rw [List.length_map, List.length_range]; omega) ?_)
        exact ⟨(by (repeat first | exact Rle.nil | refine Rle.same ?_ | refine Rle.drop ?_)), by rw [List.range_succ]; simp [hat]⟩
    · subst ea eb
      refine svq_retO (d := lhD n ties) (ev_var ?_) rfl
      simp [froz, lhD, lhOf, List.map_map, Function.comp_def]
end
end Pm
namespace Pm
open PySem PySem.Spec PyProof.Rows L2
section
variable {P : Program} {w : World} {K : PySem.W.Frag} {mg : Str → Option Value} {base : Heap} {aS : Addr}

abbrev scFree : Scope := { kind := .function, names := [(".0", .local), ("_law_point", .cell), ("_law_higher_here", .cell), ("_law_points", .cell)], isGenerator := false, isCoroutine := false }
def pFree (d e c : PyData) : Prop := ∃ (n : Nat) (ties : List (Nat × Nat)) (ns : List Nat), (n, ties) ∈ okTops ∧ d = nD n ∧ IsSeq e (ties.map tieD) ∧ IsSeq c (ns.map nD) ∧ (∀ x ∈ ns, x < n) ∧ ns.length ≤ 30000
def freeF (d e c : PyData) : PyData := .bool (freeB ((sq e).map unTie) ((sq c).map natOf))
theorem nat_ns (ns : List Nat) : (ns.map nD).map natOf = ns := by
  rw [List.map_map]
  exact (List.map_congr_left fun p _ => nat_nD p).trans (List.map_id ns)
theorem freeF_is {d e c : PyData} {ties : List (Nat × Nat)} {ns : List Nat} (hs : IsSeq e (ties.map tieD)) (hc : IsSeq c (ns.map nD)) : freeF d e c = .bool (freeB ties ns) := by unfold freeF; rw [hs.sq, hc.sq, un_ties, nat_ns]
abbrev spFree : Sp := spF (p3 pFree) (f3 freeF)
theorem lhOf_get {n : Nat} {ties : List (Nat × Nat)} {p : Nat} (h : p < n) : ((lhOf n ties).map fun l => PyData.list (l.map nD))[p]? = some (.list ((lhAt ties p).map nD)) := by
  unfold lhOf
  rw [List.getElem?_map, List.getElem?_map, List.getElem?_range h]; rfl
theorem any_swap {n : Nat} {ties : List (Nat × Nat)} (ht : (n, ties) ∈ okTops) {p : Nat} (hp : p < n) (ns : List Nat) : ((hiAt ties p).any fun h => ns.contains h) = ns.any fun o => (lhAt ties p).contains o := by
  rw [Bool.eq_iff_iff, List.any_eq_true, List.any_eq_true]
  constructor
  · rintro ⟨x, h1, h2⟩
    exact ⟨x, by simpa using h2, by simpa using (hi_mem ht hp x).mp h1⟩
  · rintro ⟨x, h1, h2⟩
    exact ⟨x, (hi_mem ht hp x).mpr (by simpa using h2), by simpa using h1⟩
abbrev N__law_is_free : List Str := ["_law_many", "_law_ties", "_law_points", "_law_higher_here", "_law_point", "_law_one"]
theorem sc__law_is_free : FnScope N__law_is_free ["_law_many", "_law_ties", "_law_points"] (defScope s__law_is_free) := ⟨rfl, rfl, rfl, by decide +kernel, rfl, by decide +kernel, by decide +kernel⟩
theorem ok__law_is_free  (T : Txt K mg w aS) (F : Stands K mg "_law_is_free" s__law_is_free ["_law_many", "_law_ties", "_law_points"]) (C__law_higher : Cal P w K mg base "_law_higher" 1 ["_law_many", "_law_ties"] (spLh))  : Cal P w K mg base "_law_is_free" 2 ["_law_many", "_law_ties", "_law_points"] (spF (p3 pFree) (f3 freeF)) := by
  have nd := sc__law_is_free.nd
  refine F.pure sc__law_is_free (fun ds h => ?_) fun f cdv A outer s H E hr => ⟨_, (pss_cons (ps_set (i := 3) nd rfl (by first | exact Or.inl rfl | exact Or.inr rfl) (pe_cal C__law_higher hr (by omega) (by rfl) (pa_cons (pv 0) (pa_cons (pv 1) pa_nil))))
        (pss_one (ps_ret (pe_cmpR (k_eqD (K := K) rfl hr.units) (pe_lc (own := [("_law_point", 4)]) (by rfl) nd (k_pe (K := K) rfl (pv 2)) (blkOk_by (N := N__law_is_free) (sc := (defScope s__law_is_free)) (own := [("_law_point", 4)]) (by decide +kernel)) (fun _ _ _ _ _ => (pg_name (i := 4) nd rfl (by first | exact Or.inl rfl | exact Or.inr rfl))) (fun _ _ _ _ _ => (pts_one (pt_cmpR (k_neD (K := K) rfl hr.units) (pe_lc (own := [("_law_one", 5)]) (by rfl) nd (k_pe (K := K) rfl (pv 2)) (blkOk_by (N := N__law_is_free) (sc := scFree) (own := [("_law_one", 5)]) (by decide +kernel)) (fun _ _ _ _ _ => (pg_name (i := 5) nd rfl (by first | exact Or.inl rfl | exact Or.inr rfl))) (fun _ _ _ _ _ => (pts_one (pt_cmpR (k_in (K := K) rfl) (pv 5) (pe_ix (k_ix (K := K) rfl) (pv 3) (pv 4) (fun _ _ => rfl)) (by rfl)))) (fun _ _ _ _ _ => (pv 5))) (pe_lst pa_nil) (nomark _)))) (fun _ _ _ _ _ => (pv 4))) (pe_lst pa_nil) (nomark _))))), fun ds h => ?_⟩
  · exact p3_len h
  · obtain ⟨d, e, c, rfl, n, ties, ns, ht, rfl, hs, hc, hlt, hl⟩ := h
    show SvO _ _ (.ret (freeF (nD n) e c))
    rw [freeF_is hs hc]
    refine sv_asg (ev_callIs (ea_two (ev_var rfl) (ev_var rfl)) ⟨_, _, rfl, n, ties, ht, rfl, hs⟩ (lhF_is hs)) ?_
    refine sv_ret ((ev_op (EvN.toD (en_lc ns nD (fun p => ns.any fun o => (lhAt ties p).contains o) nD (fun p => _) (is_either rfl hc) (by omega) (fun _ _ => gt_name (List.mem_singleton.mpr rfl)) (fun p hp => (et_test (ev_op
      (EvN.toD (en_lc ns nD (fun o => (lhAt ties p).contains o) nD (fun o => _) (is_either rfl hc) (by omega) (fun _ _ => gt_name (List.mem_singleton.mpr rfl)) (fun o ho => et_test (ev_op (ev_var rfl) (ev_op (ev_var rfl) (ev_var rfl) (rv_ixL (lhOf_get (hlt p hp)))) (rv_inN _ (.l _)))) fun o _ _ => ev_var rfl))
      (EvN.toD (en_lst ea_nil (by decide))) (rv_neD (shaped_nat _) shaped_nil))).is ?_) fun p _ _ => ev_var rfl)) (EvN.toD (en_lst ea_nil (by decide))) (rv_eqD (shaped_nat _) shaped_nil)).is ?_)
    · rw [eqv_nil, filter_empty]
      simp only [List.all_eq_not_any_not, Bool.not_not]
    · rw [eqv_nil, filter_empty]
      unfold freeB
      congr 1
      rw [List.not_any_eq_all_not]
      rw [Bool.eq_iff_iff, List.all_eq_true, List.all_eq_true]
      exact forall_congr' fun p => forall_congr' fun hp => by rw [any_swap ht (hlt p hp)]
end
end Pm
namespace Pm
open PySem PySem.Spec PyProof.Rows L2
section
variable {P : Program} {w : World} {K : PySem.W.Frag} {mg : Str → Option Value} {base : Heap} {aS : Addr}

/-! ### the table of sides -/
def rInSd (K : PySem.W.Frag) (a : Addr) : R2 := fun x y H Q => ∃ (z : Str) (r : Option Value), x = .str z ∧ y = .ref a ∧ PySem.W.nsIn K a z = some r ∧ Q (.bl r.isSome) H
theorem k_inSd {X : Cx} {K : PySem.W.Frag} {w : World} {a : Addr} (h : X.K = K) (hw : X.w = w) (D : ∃ es n, KDict K w a es n) : OpR X (compareOp .In) (rInSd K a) := by subst h hw; obtain ⟨es, n, D⟩ := D; exact op_in_kd D
theorem k_ixSd {X : Cx} {K : PySem.W.Frag} {w : World} (h : X.K = K) (hw : X.w = w) : IxR X (rIxD K w) := by subst h hw; exact ix_kdict
section
variable {te : TE} {ρ : Rho} {z : Str} {b : Bool}
theorem ev_inSd (h : EvD te ρ (.str z)) (hn : ∃ r, PySem.W.nsIn K aS z = some r ∧ r.isSome = b) : EvD (tOp (rInSd K aS) te (tC (.ref aS))) ρ (.bool b) := fun ps σ H ok Q q => h ps σ H ok _ fun v H1 e1 hv => by
  obtain ⟨r, h1, h2⟩ := hn
  exact ⟨z, r, of_str hv, rfl, h1, by rw [h2]; exact q _ H1 e1 dt_bl⟩
theorem ev_ixSd {i : Int} (T : Txt K mg w aS) (h : EvD te ρ (.str z)) (hn : ∃ u, PySem.W.nsIn K aS z = some (some u) ∧ RelV (.int i) u) : EvD (tOp (rIxD K w) (tC (.ref aS)) te) ρ (.int i) := fun ps σ H ok Q q => h ps σ H ok _ fun v H1 e1 hv => by
  obtain ⟨u, h1, h2⟩ := hn
  obtain ⟨es, n, D⟩ := T.kd
  exact ⟨aS, z, .int i, rfl, of_str hv, ⟨es, n, u, D.at_, D.lit, h1, h2⟩, q _ H1 e1 dt_int⟩
end
def Kd.word : Kd → Str
  | .count => "count"
  | .row _ => "row"
  | .tab _ => "table"
  | .tops _ _ => "tops"
  | .map _ => "map"
  | .two l _ _ => wordT l
  | .above _ _ => "above"
def Kd.subs : Kd → List Kd
  | .map k => [k]
  | .two _ a b => [a, b]
  | .above a b => [a, b]
  | _ => []
/-- what stands behind the word -/
def Kd.rest : Kd → List PyData
  | .count => []
  | .row n => [nD n]
  | .tab rows => [rowsD rows]
  | .tops n ties => [nD n, tiesD ties]
  | .map k => [k.data]
  | .two _ a b => [a.data, b.data]
  | .above a b => [a.data, b.data]
theorem Kd.data_eq : ∀ k : Kd, k.data = .tuple (.str k.word :: k.rest) := by intro k; cases k <;> rfl
def Kd.big : Kd → Bool
  | .map _ => true
  | .two _ _ _ => true
  | .above _ _ => true
  | _ => false
theorem Kd.rest_subs : ∀ k : Kd, k.big = true → k.rest = k.subs.map Kd.data := by intro k h; cases k <;> first | rfl | cases h
theorem Kd.sub_ok {k s : Kd} (h : k.ok = true) (hs : s ∈ k.subs) : s.ok = true := by
  cases k with
  | map a => simp [Kd.subs] at hs; subst hs; simpa [Kd.ok] using h
  | two l a b =>
    simp only [Kd.ok, Bool.and_eq_true] at h
    simp [Kd.subs] at hs
    rcases hs with hs | hs <;> subst hs
    · exact h.1
    · exact h.2
  | above a b =>
    simp only [Kd.ok, Bool.and_eq_true] at h
    simp [Kd.subs] at hs
    rcases hs with hs | hs <;> subst hs
    · exact h.1
    · exact h.2
  | _ => simp [Kd.subs] at hs
theorem Kd.sub_dep {k s : Kd} (hs : s ∈ k.subs) : s.dep + 1 ≤ k.dep := by
  cases k with
  | map a => simp [Kd.subs] at hs; subst hs; simp [Kd.dep]
  | two l a b => simp [Kd.subs] at hs; rcases hs with hs | hs <;> subst hs <;> simp only [Kd.dep] <;> omega
  | above a b => simp [Kd.subs] at hs; rcases hs with hs | hs <;> subst hs <;> simp only [Kd.dep] <;> omega
  | _ => simp [Kd.subs] at hs
theorem Kd.subs_size (k : Kd) : (k.subs.map Kd.size).sum + 1 = k.size := by cases k <;> simp [Kd.subs, Kd.size] <;> omega
theorem Kd.subs_len (k : Kd) : k.subs.length ≤ 2 := by cases k <;> simp [Kd.subs]
theorem Kd.sd (T : Txt K mg w aS) (k : Kd) : ∃ r, PySem.W.nsIn K aS k.word = some r ∧ r.isSome = k.big := by
  cases k with
  | count => exact ⟨_, T.sd_count, rfl⟩
  | row _ => exact ⟨_, T.sd_row, rfl⟩
  | tab _ => exact ⟨_, T.sd_table, rfl⟩
  | tops _ _ => exact ⟨_, T.sd_tops, rfl⟩
  | map _ => obtain ⟨u, h, _⟩ := T.sd_map; exact ⟨_, h, rfl⟩
  | two l _ _ =>
    cases l
    · obtain ⟨u, h, _⟩ := T.sd_pair; exact ⟨_, h, rfl⟩
    · obtain ⟨u, h, _⟩ := T.sd_later; exact ⟨_, h, rfl⟩
  | above _ _ => obtain ⟨u, h, _⟩ := T.sd_above; exact ⟨_, h, rfl⟩
theorem Kd.sdn (T : Txt K mg w aS) (k : Kd) (h : k.big = true) : ∃ u, PySem.W.nsIn K aS k.word = some (some u) ∧ RelV (.int (k.subs.length : Int)) u := by
  cases k with
  | map _ => exact T.sd_map
  | two l _ _ =>
    cases l
    · exact T.sd_pair
    · exact T.sd_later
  | above _ _ => exact T.sd_above
  | _ => cases h
def pKd (n : Nat) : List PyData → Prop := p1 fun d => ∃ k : Kd, k.ok = true ∧ k.dep ≤ n ∧ d = k.data
theorem word_eq (k : Kd) (z : Str) : decide (k.word = z) = (k.word == z) := by
  by_cases h : k.word = z
  · rw [h]; simp
  · simp [h]
theorem len_eq {n m : Nat} (h : n = m) : decide ((n : Int) = (m : Int)) = true := by rw [h]; simp
abbrev spSides : Sp := spF (p1 fun d => ∃ k : Kd, k.ok = true ∧ d = k.data) fun _ => .bool true
theorem ev_word {te : TE} {ρ : Rho} {k : Kd} (h : EvD te ρ k.data) : EvD (tOp (rIx K) te (tC (.int 0))) ρ (.str k.word) := by
  rw [k.data_eq] at h
  exact ev_op h ev_int (rv_ixT0 rfl)
theorem ev_part {te tb : TE} {ρ : Rho} {k : Kd} {i : Nat} {d : PyData} (h : EvD te ρ k.data) (hi : EvD tb ρ (.int ((i + 1 : Nat) : Int))) (hd : k.rest[i]? = some d) : EvD (tOp (rIx K) te tb) ρ d := by
  rw [k.data_eq] at h
  exact ev_op h hi (rv_ixT (i := i + 1) hd)
theorem rc_lenK {k : Kd} : RcD (rLenA K) [k.data] (.int ((k.rest.length + 1 : Nat) : Int)) := by rw [k.data_eq]; exact rc_lenT
theorem tops_six : ∀ nt ∈ okTops, nt.1 ≤ 6 := by decide +kernel
abbrev N_has_right_sides : List Str := ["value", "word"]
theorem sc_has_right_sides : FnScope N_has_right_sides ["value"] (defScope s_has_right_sides) := ⟨rfl, rfl, rfl, by decide +kernel, rfl, by decide +kernel, by decide +kernel⟩
theorem ok_has_right_sides  (T : Txt K mg w aS) (F : Stands K mg "has_right_sides" s_has_right_sides ["value"]) (C_is_count : Cal P w K mg base "is_count" 2 ["value"] (spCnt)) (C_are_ties : Cal P w K mg base "are_ties" 4 ["many", "value"] (spTies)) (C_are_table_rows : Cal P w K mg base "are_table_rows" 3 ["value"] (spTab))  : Cal P w K mg base "has_right_sides" 5 ["value"] (spF (p1 fun d => ∃ k : Kd, k.ok = true ∧ d = k.data) (fun _ => .bool true)) := by
  have nd := sc_has_right_sides.nd
  refine F.pure sc_has_right_sides (fun ds h => ?_) fun f cdv A outer s H E hr => ⟨_, (pss_cons (ps_set (i := 1) nd rfl (by first | exact Or.inl rfl | exact Or.inr rfl) (pe_ix (k_ix (K := K) rfl) (pv 0) pe_int (fun _ _ => rfl)))
        (pss_cons (ps_if (pt_cmpR op_eq (pv 1) pe_str (nomark _)) (pss_one (ps_ret (pe_cmpR op_eq (pe_callB (k_len (K := K) rfl) (by rfl) T.b_len bt_len (pa_cons (pv 0) pa_nil)) pe_int (nomark _)))) pss_nil)
        (pss_cons (ps_if (pt_cmpR op_eq (pv 1) pe_str (nomark _)) (pss_one (ps_ret (pe_and (pe_cmpR op_eq (pe_callB (k_len (K := K) rfl) (by rfl) T.b_len bt_len (pa_cons (pv 0) pa_nil)) pe_int (nomark _)) (pe_and (pe_cal C_is_count hr (by omega) (by rfl) (pa_cons (pe_ix (k_ix (K := K) rfl) (pv 0) pe_int (fun _ _ => rfl)) pa_nil)) (pe_one (pe_chain op_le op_le pe_int (pe_ix (k_ix (K := K) rfl) (pv 0) pe_int (fun _ _ => rfl)) (pe_gint (by rfl) T.MOST_ROW))))))) pss_nil)
        (pss_cons (ps_if (pt_cmpR op_eq (pv 1) pe_str (nomark _)) (pss_one (ps_ret (pe_and (pe_cmpR op_eq (pe_callB (k_len (K := K) rfl) (by rfl) T.b_len bt_len (pa_cons (pv 0) pa_nil)) pe_int (nomark _)) (pe_and (pe_cal C_is_count hr (by omega) (by rfl) (pa_cons (pe_ix (k_ix (K := K) rfl) (pv 0) pe_int (fun _ _ => rfl)) pa_nil)) (pe_and (pe_cmpR op_le (pe_ix (k_ix (K := K) rfl) (pv 0) pe_int (fun _ _ => rfl)) (pe_gint (by rfl) T.MOST_POINTS) (nomark _)) (pe_one (pe_cal C_are_ties hr (by omega) (by rfl) (pa_cons (pe_ix (k_ix (K := K) rfl) (pv 0) pe_int (fun _ _ => rfl)) (pa_cons (pe_ix (k_ix (K := K) rfl) (pv 0) pe_int (fun _ _ => rfl)) pa_nil))))))))) pss_nil)
        (pss_cons (ps_if (pt_cmpR op_eq (pv 1) pe_str (nomark _)) (pss_one (ps_ret (pe_and (pe_cmpR op_eq (pe_callB (k_len (K := K) rfl) (by rfl) T.b_len bt_len (pa_cons (pv 0) pa_nil)) pe_int (nomark _)) (pe_one (pe_cal C_are_table_rows hr (by omega) (by rfl) (pa_cons (pe_ix (k_ix (K := K) rfl) (pv 0) pe_int (fun _ _ => rfl)) pa_nil)))))) pss_nil)
        (pss_one (ps_ret (pe_and (pe_cmpR (k_inSd (K := K) (w := w) rfl rfl T.kd) (pv 1) (pe_glob (v := .ref aS) (by rfl) T.SIDES rfl) (by rfl)) (pe_one (pe_cmpR op_eq (pe_callB (k_len (K := K) rfl) (by rfl) T.b_len bt_len (pa_cons (pv 0) pa_nil)) (pe_op op_add (pe_ix (k_ixSd (K := K) (w := w) rfl rfl) (pe_glob (v := .ref aS) (by rfl) T.SIDES rfl) (pv 1) (fun _ _ => rfl)) pe_int) (nomark _))))))))))), fun ds h => ?_⟩
  · exact p1_len h
  · obtain ⟨d, rfl, k, hk, rfl⟩ := h
    refine sv_asg (ev_word (ev_var rfl)) ?_
    have W : ∀ (z : Str) b, decide (k.word = z) = b → EvT (tTest (tOp rEq (tVar 1) (tC (.str z)))) [some k.data, some (.str k.word)] b := fun z b e => (et_test (ev_op (ev_var rfl) ev_str rv_eqS)).is e
    have L : EvD (tCB (rLenA K) (tCons (tVar 0) tNil)) [some k.data, some (.str k.word)] (.int ((k.rest.length + 1 : Nat) : Int)) := ev_cb (ea_one (ev_var rfl)) rc_lenK
    have V : ∀ (i : Nat) d, k.rest[i]? = some d → EvD (tOp (rIx K) (tVar 0) (tC (.int ((i + 1 : Nat) : Int)))) [some k.data, some (.str k.word)] d := fun i d e => ev_part (ev_var rfl) ev_int e
    have big : k.big = true → k.rest.length = k.subs.length := fun h => by rw [k.rest_subs h, List.length_map]
    have sd := Kd.sd T k
    have sdn := Kd.sdn T k
    cases k with
    | count => exact sv_whenT (W _ _ rfl) (sv_ret (ev_op L ev_int rv_eqI))
    | row n =>
      have hn : 1 ≤ n ∧ n ≤ 3 := by simpa [Kd.ok] using hk
      refine sv_whenF (W _ _ rfl) (sv_whenT (W _ _ rfl) (sv_ret (ev_andT (ev_op L ev_int rv_eqI) (ev_andT (ev_callIs (d := .bool true) (ea_one (V 0 _ rfl)) ⟨_, rfl, rfl⟩ (congrArg PyData.bool (nD_cnt n))) ((ev_chain ev_int (V 0 _ rfl) ev_int rv_B rv_B).is ?_)))))
      rw [decide_eq_true (show (1 : Int) ≤ (n : Int) by omega), decide_eq_true (show (n : Int) ≤ 20 by omega)]; rfl
    | tab rows =>
      have hn : rows ∈ okTabs := by simpa [Kd.ok] using hk
      exact sv_whenF (W _ _ rfl) (sv_whenF (W _ _ rfl) (sv_whenF (W _ _ rfl) (sv_whenT (W _ _ rfl) (sv_ret (ev_andT (ev_op L ev_int rv_eqI) (ev_callIs (ea_one (V 0 _ rfl)) ⟨_, rfl, rows, hn, rfl⟩ rfl))))))
    | tops n ties =>
      have hn : (n, ties) ∈ okTops := by simpa [Kd.ok] using hk
      have h6 : n ≤ 6 := tops_six _ hn
      refine sv_whenF (W _ _ rfl) (sv_whenF (W _ _ rfl) (sv_whenT (W _ _ rfl) (sv_ret (ev_andT (ev_op L ev_int rv_eqI) (ev_andT (ev_callIs (d := .bool true) (ea_one (V 0 _ rfl)) ⟨_, rfl, rfl⟩ (congrArg PyData.bool (nD_cnt n))) (ev_andT ((ev_op (V 0 _ rfl) ev_int rv_B).is ?_) (ev_callIs (ea_two (V 0 _ rfl) (V 1 _ rfl)) ⟨_, _, rfl, n, ties, hn, rfl, .l _⟩ rfl)))))))
      rw [decide_eq_true (show (n : Int) ≤ 6 by omega)]
    | map a => exact sv_whenF (W _ _ rfl) (sv_whenF (W _ _ rfl) (sv_whenF (W _ _ rfl) (sv_whenF (W _ _ rfl) (sv_ret (ev_andT (ev_inSd (ev_var rfl) sd) (ev_op L (ev_op (ev_ixSd T (ev_var rfl) (sdn rfl)) ev_int rv_I) rv_eqI))))))
    | two l a b =>
      cases l
      · exact sv_whenF (W _ _ rfl) (sv_whenF (W _ _ rfl) (sv_whenF (W _ _ rfl) (sv_whenF (W _ _ rfl) (sv_ret (ev_andT (ev_inSd (ev_var rfl) sd) (ev_op L (ev_op (ev_ixSd T (ev_var rfl) (sdn rfl)) ev_int rv_I) rv_eqI))))))
      · exact sv_whenF (W _ _ rfl) (sv_whenF (W _ _ rfl) (sv_whenF (W _ _ rfl) (sv_whenF (W _ _ rfl) (sv_ret (ev_andT (ev_inSd (ev_var rfl) sd) (ev_op L (ev_op (ev_ixSd T (ev_var rfl) (sdn rfl)) ev_int rv_I) rv_eqI))))))
    | above a b => exact sv_whenF (W _ _ rfl) (sv_whenF (W _ _ rfl) (sv_whenF (W _ _ rfl) (sv_whenF (W _ _ rfl) (sv_ret (ev_andT (ev_inSd (ev_var rfl) sd) (ev_op L (ev_op (ev_ixSd T (ev_var rfl) (sdn rfl)) ev_int rv_I) rv_eqI))))))
theorem svq_parOD {ls : List Addr} {ta tb : TE} {ρ : Rho} {ω : Om} {R : DS} {N : Rho → Om → Prop} {tw : TS} {i j : Nat} {d : PyData} {es : List PyData} (ha : EvN ta ρ es) (hb : EvD tb ρ d) (hij : i ≠ j) (li : i < ρ.length) (hi : ls = [] ∨ i ≠ 0) (hj : ls = [] ∨ j ≠ 0)
    (fi : ∀ e ∈ ω, e.1 ≠ i) (fj : ∀ e ∈ ω, e.1 ≠ j) (hn : SvQ ls tw ((ρ.set i none).set j (some d)) ((i, es) :: ω) R N) : SvQ ls (tSeq (tPar i j (tCons ta (tCons tb tNil))) tw) ρ ω R N := fun ps H0 qs H σ D ok q1 q2 =>
  ha _ σ H ok.ok _ fun p xs H1 np e1 hp hx => by
    have ok1 := ok.seto np e1 hp hx li hi fi
    refine hb (p :: (qs ++ ps)) σ H1 (ok.ok.under e1 np fun z => by rw [hp] at z; cases z) _ fun v H2 e2 hv => ⟨.ref p, v, rfl, ?_⟩
    have ok2 := (ok1.mono e2).setv (i := j) hv hj fun e m => by
      rcases List.mem_cons.mp m with m | m
      · rw [m]; exact hij
      · exact fj e m
    refine hn ps H0 (p :: qs) H2 _ D ok2 q1 fun qs2 σ2 H3 ρ2 ω2 n g ok3 => q2 qs2 σ2 H3 ρ2 ω2 n
      ((⟨hid_same (e1.trans e2), fun q m => ?_, (Go.of (ps := ps) (qs := qs) (e1.trans e2)).al⟩ : Go ps qs H (p :: qs) H2).trans g) ok3
    rcases List.mem_cons.mp m with z | m
    · exact .inr (by rw [z]; exact np)
    · exact .inl m
theorem svq_ext {ls : List Addr} {te : TE} {ρ : Rho} {ω : Om} {R : DS} {N : Rho → Om → Prop} {K : PySem.W.Frag} {k i : Nat} {ds es : List PyData} (hk : ω[k]? = some (i, ds)) (h : EvN te ρ es) (hl : ds.length + es.length ≤ 100000) (hn : N ρ (ω.set k (i, ds ++ es))) : SvQ ls (tDrop (tBM K "list" rExtend (tVar i) (tCons te tNil))) ρ ω R N := fun ps H0 qs H σ D ok q1 q2 => by
  obtain ⟨a, xs, h1, h2, h3, h4⟩ := ok.own k i ds hk
  refine ⟨.ref a, h2, .inl ⟨rfl, xs, SqL.of h3⟩, h _ σ H ok.ok _ fun p ys H2 np e hp hy => ?_⟩
  have ok2 := ok.mono e
  obtain ⟨a', zs, g1, g2, g3, g4⟩ := ok2.own k i ds hk
  rw [h1] at g1
  cases g1
  have hy2 : DtA (hid (qs ++ ps) H2) es ys := hy.mono (hid_less fun b m => List.mem_cons_of_mem _ m)
  obtain ⟨o1, o2⟩ := ok2.put hk h1 (DtA.append g4 hy2)
  exact ⟨a, p, zs, ys, rfl, rfl, g3, hp, by rw [g4.length, hy2.length]; exact small_ok hl, q2 qs σ _ ρ _ hn ((Go.of e).trans o2) o1⟩
def jobD (p : Kd × Nat) : PyData := .tuple [p.1.data, nD p.2]
def jobs (l : List (Kd × Nat)) : Nat := (l.map fun p => p.1.size).sum
theorem shaped_kd (k : Kd) : k.data.canLay0 = true ∧ k.data.depth ≤ k.dep + 3 := by
  induction k with
  | count => constructor <;> simp [Kd.data, PyData.canLay0, PyData.canLayAll0, PyData.depth, PyData.depthAll, Kd.dep] <;> decide +kernel
  | row n => constructor <;> simp [Kd.data, PyData.canLay0, PyData.canLayAll0, PyData.depth, PyData.depthAll, Kd.dep, nD] <;> decide +kernel
  | tab rows =>
    constructor
    · simp only [Kd.data, PyData.canLay0, PyData.canLayAll0, rowsD, Bool.and_true, Bool.and_eq_true]
      refine ⟨by decide +kernel, canLayAll_of fun d m => ?_⟩
      obtain ⟨r, _, rfl⟩ := List.mem_map.mp m
      simp only [rowD, PyData.canLay0]
      refine canLayAll_of fun d m => ?_
      obtain ⟨r, _, rfl⟩ := List.mem_map.mp m
      simp [nD, PyData.canLay0]
    · have h1 : PyData.depthAll (rows.map rowD) ≤ 1 := depA_le fun d m => by
        obtain ⟨r, _, rfl⟩ := List.mem_map.mp m
        have h2 : PyData.depthAll (r.map nD) ≤ 0 := depA_le fun d m => by
          obtain ⟨r, _, rfl⟩ := List.mem_map.mp m
          simp [nD, PyData.depth]
        simp only [rowD, PyData.depth]; omega
      simp only [Kd.data, PyData.depth, PyData.depthAll, rowsD, Kd.dep]; omega
  | tops n ties =>
    constructor
    · simp only [Kd.data, PyData.canLay0, PyData.canLayAll0, tiesD, nD, Bool.and_true, Bool.true_and, Bool.and_eq_true]
      refine ⟨by decide +kernel, canLayAll_of fun d m => ?_⟩
      obtain ⟨r, _, rfl⟩ := List.mem_map.mp m
      simp [tieD, nD, PyData.canLay0, PyData.canLayAll0]
    · have h1 : PyData.depthAll (ties.map tieD) ≤ 1 := depA_le fun d m => by
        obtain ⟨r, _, rfl⟩ := List.mem_map.mp m
        simp [tieD, nD, PyData.depth, PyData.depthAll]
      simp only [Kd.data, PyData.depth, PyData.depthAll, tiesD, nD, Kd.dep]; omega
  | map k ih =>
    obtain ⟨i1, i2⟩ := ih
    constructor
    · simp only [Kd.data, PyData.canLay0, PyData.canLayAll0, i1, Bool.and_true]; decide +kernel
    · simp only [Kd.data, PyData.depth, PyData.depthAll, Kd.dep]; omega
  | two l a b iha ihb =>
    obtain ⟨i1, i2⟩ := iha
    obtain ⟨j1, j2⟩ := ihb
    constructor
    · simp only [Kd.data, PyData.canLay0, PyData.canLayAll0, i1, j1, Bool.and_true]; cases l <;> decide +kernel
    · simp only [Kd.data, PyData.depth, PyData.depthAll, Kd.dep]; omega
  | above a b iha ihb =>
    obtain ⟨i1, i2⟩ := iha
    obtain ⟨j1, j2⟩ := ihb
    constructor
    · simp only [Kd.data, PyData.canLay0, PyData.canLayAll0, i1, j1, Bool.and_true]; decide +kernel
    · simp only [Kd.data, PyData.depth, PyData.depthAll, Kd.dep]; omega
theorem shaped_jobs {l : List (Kd × Nat)} (h : ∀ p ∈ l, p.1.dep ≤ 10) : SeqAt.shaped (.list (l.map jobD)) = true := shaped_list (n := 20) (fun d m => by
  obtain ⟨p, hp, rfl⟩ := List.mem_map.mp m
  obtain ⟨h1, h2⟩ := shaped_kd p.1
  have := h p hp
  refine ⟨by simp [jobD, PyData.canLay0, PyData.canLayAll0, h1, nD], by simp only [jobD, PyData.depth, PyData.depthAll, nD]; omega⟩) (by decide)
theorem jobs_app (l m : List (Kd × Nat)) : jobs (l ++ m) = jobs l + jobs m := by simp [jobs]
theorem jobs_last {l : List (Kd × Nat)} {p : Kd × Nat} (h : l.getLast? = some p) : l = l.dropLast ++ [p] := by
  have hne : l ≠ [] := fun z => by rw [z] at h; cases h
  have := List.dropLast_concat_getLast hne
  rw [List.getLast?_eq_some_getLast hne] at h
  cases h
  exact this.symm
theorem jobs_subs (k : Kd) (n : Nat) : jobs (k.subs.map fun s => (s, n)) + 1 = k.size := by
  have := k.subs_size
  unfold jobs
  rw [List.map_map]
  exact this
abbrev spKd : Sp := spF (p1 fun d => ∃ k : Kd, k.ok = true ∧ k.dep ≤ 4 ∧ k.size ≤ 12 ∧ d = k.data) fun _ => .bool true
abbrev N_is_kind_value : List Str := ["value", "left", "met", "here", "deep", "side"]
theorem sc_is_kind_value : FnScope N_is_kind_value ["value"] (defScope s_is_kind_value) := ⟨rfl, rfl, rfl, by decide +kernel, rfl, by decide +kernel, by decide +kernel⟩
theorem ok_is_kind_value  (T : Txt K mg w aS) (F : Stands K mg "is_kind_value" s_is_kind_value ["value"]) (C_has_right_sides : Cal P w K mg base "has_right_sides" 5 ["value"] (spSides))  : Cal P w K mg base "is_kind_value" 6 ["value"] (spF (p1 fun d => ∃ k : Kd, k.ok = true ∧ k.dep ≤ 4 ∧ k.size ≤ 12 ∧ d = k.data) (fun _ => .bool true)) := by
  have nd := sc_is_kind_value.nd
  refine F.own sc_is_kind_value (fun ds h => ?_) fun f cdv A outer s H E hr => ⟨_, (pss_cons (ps_par (i := 1) (j := 2) (by rfl) nd rfl rfl (by decide) rfl rfl (pa_cons (pe_lst (pa_cons (pe_tup (pa_cons (pv 0) (pa_cons pe_int pa_nil))) pa_nil)) (pa_cons pe_int pa_nil)) (by rfl))
        (pss_cons (ps_while PassesOwn.never (pt_cmpR (k_neD (K := K) rfl hr.units) (pv 1) (pe_lst pa_nil) (nomark _)) (pss_cons (ps_asg (pe_bm0 PySem.F.plainAttrs_list PySem.F.slot_list_pop PySem.F.type_list_pop mt_pop (pv 1)) (k_gt (n := 2) (K := K) rfl rfl (pgs_cons (pg_name (i := 3) nd rfl (by first | exact Or.inl rfl | exact Or.inr rfl)) (pgs_cons (pg_name (i := 4) nd rfl (by first | exact Or.inl rfl | exact Or.inr rfl)) pgs_nil))))
        (pss_cons (ps_set (i := 2) nd rfl (by first | exact Or.inl rfl | exact Or.inr rfl) (pe_op op_add (pv 2) pe_int))
        (pss_cons (ps_if (PW.pt (pw_or (pt_not (pt_val (pe_callB (k_isi (K := K) rfl) (by rfl) T.b_isinstance bt_isinstance (pa_cons (pv 3) (pa_cons (pe_bltn (v := .ty "tuple") (by rfl) T.b_tuple bt_tuple rfl) pa_nil))))) (pw_or (pt_cmpR op_eq (pe_callB (k_len (K := K) rfl) (by rfl) T.b_len bt_len (pa_cons (pv 3) pa_nil)) pe_int (nomark _)) (pw_or1 (pt_not (pt_val (pe_callB (k_isi (K := K) rfl) (by rfl) T.b_isinstance bt_isinstance (pa_cons (pe_ix (k_ix (K := K) rfl) (pv 3) pe_int (fun _ _ => rfl)) (pa_cons (pe_bltn (v := .ty "str") (by rfl) T.b_str bt_str rfl) pa_nil))))))))) (pss_one (ps_ret pe_bl)) pss_nil)
        (pss_cons (ps_if (PW.pt (pw_or (pt_cmpR op_gt (pv 4) (pe_gint (by rfl) T.MOST_DEEP) (nomark _)) (pw_or (pt_cmpR op_gt (pv 2) (pe_gint (by rfl) T.MOST_KINDS) (nomark _)) (pw_or1 (pt_not (pt_val (pe_cal C_has_right_sides hr (by omega) (by rfl) (pa_cons (pv 3) pa_nil)))))))) (pss_one (ps_ret pe_bl)) pss_nil)
        (pss_one (ps_if (pt_cmpR (k_inSd (K := K) (w := w) rfl rfl T.kd) (pe_ix (k_ix (K := K) rfl) (pv 3) pe_int (fun _ _ => rfl)) (pe_glob (v := .ref aS) (by rfl) T.SIDES rfl) (by rfl)) (pss_one (ps_expr (pe_bm PySem.F.plainAttrs_list PySem.F.slot_list_extend PySem.F.type_list_extend mt_extend (pv 1) (pa_cons (pe_lc (own := [("side", 5)]) (by rfl) nd (k_pt (K := K) rfl (pe_slice (k_sl (K := K) rfl) (pv 3) (po_some pe_int) po_none)) (blkOk_by (N := N_is_kind_value) (sc := (defScope s_is_kind_value)) (own := [("side", 5)]) (by decide +kernel)) (fun _ _ _ _ _ => (pg_name (i := 5) nd rfl (by first | exact Or.inl rfl | exact Or.inr rfl))) (fun _ _ _ _ _ => pts_nil) (fun _ _ _ _ _ => (pe_tup (pa_cons (pv 5) (pa_cons (pe_op op_add (pv 4) pe_int) pa_nil))))) pa_nil)))) pss_nil)))))))
        (pss_one (ps_ret pe_bl)))), fun ds h => ?_⟩
  · exact p1_len h
  · obtain ⟨d, rfl, k, hk, hd, hz, rfl⟩ := h
    refine svq_parOD (es := [jobD (k, 1)]) (d := .int 0) (en_lst (ea_one (ev_tup (ea_two (ev_var rfl) ev_int) (by simp))) (by simp)) ev_int (by decide) (show 1 < 6 by decide) (.inl rfl) (.inl rfl) (by simp) (by simp) ?_
    refine svq_seq (N := fun a b => ∃ m : Nat, a = [some k.data, none, some (nD m), none, none, none] ∧ b = [(1, [])]) (svq_while (n := 12) (fun f a b => ∃ (l : List (Kd × Nat)) (m : Nat), (∀ p ∈ l, p.1.ok = true ∧ p.2 + p.1.dep ≤ 5) ∧ jobs l ≤ f ∧ m + jobs l ≤ 12 ∧ l.length ≤ 50 ∧ a = [some k.data, none, some (nD m), none, none, none] ∧ b = [(1, l.map jobD)])
      ⟨[(k, 1)], 0, by simp; exact ⟨hk, by omega⟩, by simpa [jobs] using hz, by simpa [jobs] using hz, by simp, rfl, rfl⟩ fun f a b ⟨l, m, hl, hf, hm, hln, ea, eb⟩ => ?_) fun a b ⟨m, ea, eb⟩ => ?_
    · subst ea eb
      refine ⟨_, et_test (ev_op (d := .list (l.map jobD)) (ev_var rfl) (EvN.toD (en_lst ea_nil (by decide))) (rv_neD (shaped_jobs fun p hp => by have := (hl p hp).2; omega) shaped_nil)), ?_⟩
      rw [eqv_nil]
      cases hg : l.getLast? with
      | none =>
        have := getLast_none hg
        subst this
        exact ⟨fun z => (nomatch z), fun _ => ⟨m, rfl, rfl⟩⟩
      | some p =>
        obtain ⟨a, dp⟩ := p
        have hlast := jobs_last hg
        have hsz : jobs l = jobs l.dropLast + a.size := by
          have := jobs_app l.dropLast [(a, dp)]
          rw [← hlast] at this
          rw [this]; simp [jobs]
        have hpos := a.size_pos
        have hmem : (a, dp) ∈ l := by rw [hlast]; simp
        obtain ⟨aok, adp⟩ := hl _ hmem
        have adp : dp + a.dep ≤ 5 := adp
        have apos := a.dep_pos
        refine ⟨fun _ => ?_, fun z => ?_⟩
        · have h1 : (l.map jobD)[(l.map jobD).length - 1]? = some (.tuple [a.data, nD dp]) := by
            rw [List.length_map, List.getElem?_map, last_get hg]; rfl
          refine svq_seq1 (svq_pop (k := 0) (vs := [3, 4]) rfl h1 (gt_two (by decide) (by decide)) (.inl rfl) (by simp) ⟨rfl, rfl⟩) ?_
          refine svq_asg (S := fun d => d = nD (m + 1)) (evq_of (ev_op (ev_var rfl) ev_int rv_I) (by simp [nD])) (.inl rfl) (by simp) fun d hd' => ?_
          subst hd'
          show SvQ [] _ [some k.data, none, some (nD (m + 1)), some a.data, some (nD dp), none] [(1, (l.map jobD).dropLast)] _ _
          have aT : ∃ es, a.data = .tuple es ∧ es.length = a.rest.length + 1 := ⟨_, a.data_eq, rfl⟩
          refine svq_when (B := fun b => b = false) (etq_of (et_orF (et_notT (et_B (ev_isi (ev_var rfl) (b := true) ?_))) (et_orF ((et_test (ev_op (ev_cb (ea_one (ev_var rfl)) rc_lenK) ev_int rv_eqI)).is ?_) (et_notT (et_B (ev_isi (ev_word (ev_var rfl)) (kit_str rfl)))))) rfl) (fun z => nomatch z) fun _ => ?_
          · rw [a.data_eq]; exact kit_tup rfl
          · exact decide_eq_false (by omega)
          refine svq_when (B := fun b => b = false) (etq_of (et_orF ((et_test (ev_op (ev_var rfl) ev_int rv_B)).is ?_) (et_orF ((et_test (ev_op (ev_var rfl) ev_int rv_B)).is ?_) (et_notT (et_B (ev_callIs (ea_one (ev_var rfl)) ⟨_, rfl, a, aok, rfl⟩ rfl))))) rfl) (fun z => nomatch z) fun _ => ?_
          · exact decide_eq_false (by omega)
          · exact decide_eq_false (by omega)
          refine svq_if (B := fun b => b = a.big) (etq_of (et_test (ev_inSd (ev_word (ev_var rfl)) (Kd.sd T a))) rfl) (fun hb => ?_) (fun hb => ?_)
          · have hr2 := a.rest_subs hb.symm
            have e0 : a.data = .tuple (.str a.word :: a.subs.map Kd.data) := by rw [a.data_eq, hr2]
            have hsl := a.subs_len
            refine svq_imp (svq_less (ρ0 := [some k.data, none, some (nD (m + 1)), none, none, none]) (ω' := [(1, (l.dropLast ++ a.subs.map fun s => (s, dp + 1)).map jobD)]) (svq_ext (k := 0) (i := 1) (es := a.subs.map fun s => jobD (s, dp + 1)) rfl (en_lc1 a.subs Kd.data (fun s => jobD (s, dp + 1)) (fun s => _) (is_tup ?_) (by omega) (fun _ _ => gt_name (List.mem_singleton.mpr rfl)) fun s hs => ?_) ?_ ⟨(by (repeat first | exact Rle.nil | refine Rle.same ?_ | refine Rle.drop ?_)), ?_⟩)) (fun _ h => h) fun a' b' ⟨ea, eb⟩ => ⟨f - 1, by omega, _, m + 1, ?_, ?_, ?_, ?_, ea, eb⟩
            · have := ev_from1 (K := K) (te := tVar 3) (d := a.data) (ρ := [some k.data, none, some (nD (m + 1)), some a.data, some (nD dp), none]) (ds := .str a.word :: a.subs.map Kd.data) (ev_var rfl) (by rw [e0]; exact .t _)
              exact this.is (by rw [e0]; rfl)
            · exact ev_tup (ea_two (ev_var rfl) (ev_op (ev_var rfl) ev_int rv_I)) (by simp)
            · rw [List.length_dropLast, List.length_map, List.length_map]; omega
            · simp [List.map_dropLast, Function.comp_def]
            · intro p hp
              rcases List.mem_append.mp hp with hp | hp
              · exact hl p (List.dropLast_subset _ hp)
              · obtain ⟨s, hs, rfl⟩ := List.mem_map.mp hp
                have := Kd.sub_dep hs
                exact ⟨Kd.sub_ok aok hs, by show dp + 1 + s.dep ≤ 5; omega⟩
            · have := jobs_subs a (dp + 1)
              rw [jobs_app]; omega
            · have := jobs_subs a (dp + 1)
              rw [jobs_app]; omega
            · have h50 : (l.dropLast ++ a.subs.map fun s => (s, dp + 1)).length ≤ jobs (l.dropLast ++ a.subs.map fun s => (s, dp + 1)) := by
                generalize (l.dropLast ++ a.subs.map fun s => (s, dp + 1)) = q
                unfold jobs
                induction q with
                | nil => simp
                | cons x r ih => have := x.1.size_pos; simp only [List.length_cons, List.map_cons, List.sum_cons]; omega
              have := jobs_subs a (dp + 1)
              rw [jobs_app] at h50
              omega
          · exact svq_imp (svq_less (ρ0 := [some k.data, none, some (nD (m + 1)), none, none, none]) (ω' := [(1, l.dropLast.map jobD)]) (svq_next ⟨(by (repeat first | exact Rle.nil | refine Rle.same ?_ | refine Rle.drop ?_)), by rw [List.map_dropLast]⟩)) (fun _ h => h) fun a' b' ⟨ea, eb⟩ => ⟨f - 1, by omega, l.dropLast, m + 1, fun p hp => hl p (List.dropLast_subset _ hp), by omega, by omega, by rw [List.length_dropLast]; omega, ea, eb⟩
        · cases l with
          | nil => simp at hg
          | cons _ _ => simp at z
    · exact svq_ret (evq_of ev_bl rfl)
end
end Pm
namespace Pm
open PySem PySem.Spec PyProof.Rows L2
section
variable {P : Program} {w : World} {K : PySem.W.Frag} {mg : Str → Option Value} {base : Heap} {aS : Addr}

/-- no arguments at all are promised for -/
theorem pss_any {X : Cx} : ∀ body : List Stmt, ∃ t, PSs X body t
  | [] => ⟨_, pss_nil⟩
  | [s] => ⟨_, pss_one ps_never⟩
  | s :: r :: q => by
    obtain ⟨t, h⟩ := pss_any (X := X) (r :: q)
    exact ⟨_, pss_cons ps_never h⟩
theorem Stands.noneD {x : Str} {st : Stmt} {N pn : List Str} {pre : List PyData → Prop} {g : List PyData → PyData} (F : Stands K mg x st pn) (S : FnScope N pn (defScope st)) (no : ∀ ds, ¬ pre ds) : Cal P w K mg base x 1 pn (spF pre g) := by
  refine F.cal S (fun vs H Q E ⟨ps, ds, al, hd, hp, _⟩ => (no ds hp).elim) fun f cdv A outer s H E hr => ?_
  obtain ⟨t, h⟩ := pss_any (X := (cxOf CX0 P w K mg base N x (defScope st) f cdv A outer s H E).nox) (defBody st)
  exact ⟨t, h, fun vs Q ⟨ps, ds, al, hd, hp, _⟩ => (no ds hp).elim⟩
theorem k_sortedT {X : Cx} {K : PySem.W.Frag} {P : Program} {w : World} (h : X.K = K) (hp : X.prog = P) (hw : X.w = w) (hc : X.calm = true) : CallR X (.builtin "sorted") (rSortedT K P w) := by subst h hp hw; exact cr_sortedT hc
theorem k_setOfT {X : Cx} {K : PySem.W.Frag} {P : Program} {w : World} (h : X.K = K) (hp : X.prog = P) (hw : X.w = w) (hc : X.calm = true) (hu : X.A.units + 64 < cLine) : CallR X (.type "set") (rSetOfT K P w) := by subst h hp hw; exact cr_setOfT hc hu
def cd (p : Nat × Nat) : List Int := [(p.1 : Int), (p.2 : Int)]
theorem of_ties {ps : List Addr} {H : Hp} : ∀ {ties : List (Nat × Nat)} {xs : List V}, DtA (hid ps H) (ties.map tieD) xs → ∃ ks : List (Addr × List Int), xs = ks.map (fun p => V.ref p.1) ∧ ks.map (·.2) = ties.map cd ∧ ∀ p ∈ ks, H p.1 = some (.tup (p.2.map V.int)) ∧ p.1 ∉ ps
  | [], _, h => by simp only [List.map_nil, DtA] at h; exact ⟨[], by rw [h]; rfl, rfl, fun p m => nomatch m⟩
  | t :: r, xs, h => by
    simp only [List.map_cons, DtA] at h
    obtain ⟨v, vs, e1, h1, h2⟩ := h
    obtain ⟨ks, g1, g2, g3⟩ := of_ties h2
    obtain ⟨a, ys, f1, n, f2, f3⟩ := of_tup (ds := [nD t.1, nD t.2]) h1
    obtain ⟨x, y, f4, f5, f6⟩ := two_of f3
    refine ⟨(a, cd t) :: ks, by rw [e1, f1, g1]; rfl, by rw [List.map_cons, List.map_cons, g2], fun p m => ?_⟩
    rcases List.mem_cons.mp m with m | m
    · subst m
      refine ⟨?_, n⟩
      show H a = some (.tup [V.int _, V.int _])
      rw [f2, f4, of_int f5, of_int f6]
    · exact g3 p m
theorem to_ties {H : Hp} : ∀ {ties : List (Nat × Nat)} {L : List (Addr × List Int)}, L.map (·.2) = ties.map cd → (∀ p ∈ L, H p.1 = some (.tup (p.2.map V.int))) → DtA H (ties.map tieD) (L.map fun p => V.ref p.1)
  | [], L, h, _ => by
    have : L = [] := by simpa using h
    subst this; exact DtA.nil
  | t :: r, [], h, _ => by simp at h
  | t :: r, p :: L, h, hp => by
    have h1 : p.2 = cd t := by simpa using (List.cons.inj h).1
    have h2 : L.map (·.2) = r.map cd := (List.cons.inj h).2
    refine DtA.cons ?_ (to_ties h2 fun q m => hp q (List.mem_cons_of_mem _ m))
    have := hp p List.mem_cons_self
    rw [h1] at this
    simp only [tieD, Dt]
    exact ⟨p.1, [.int _, .int _], rfl, this, DtA.cons dt_int (DtA.cons dt_int DtA.nil)⟩
def codeN (p : Nat × Nat) : Nat := p.1 * 64 + p.2
def tieOk (ties : List (Nat × Nat)) : Bool := (ties.all fun p => decide (p.1 < 64) && decide (p.2 < 64)) && decide (ties.Pairwise fun p q => codeN p < codeN q) && decide (ties.length < 64)
theorem tops_tie : ∀ nt ∈ okTops, tieOk nt.2 = true := by decide +kernel
theorem code_cd (p : Nat × Nat) : TS.code 64 (cd p) = (codeN p : Int) := by
  show TS.code 64 [_, _] = _
  rw [code_pair]; simp [codeN]
theorem cd_inj {p q : Nat × Nat} (h : cd p = cd q) : p = q := by
  unfold cd at h
  have h1 := (List.cons.inj h).1
  have h2 := (List.cons.inj (List.cons.inj h).2).1
  exact Prod.ext (Int.ofNat_inj.mp h1) (Int.ofNat_inj.mp h2)
theorem codeN_inj {p q : Nat × Nat} (b1 : p.2 < 64) (b2 : q.2 < 64) (h : codeN p = codeN q) : p = q := by
  unfold codeN at h
  exact Prod.ext (by omega) (by omega)
theorem set_same {ties : List (Nat × Nat)} (ht : tieOk ties = true) {ls : List (List Int)} (nd : ls.Nodup) (hm : ∀ x, x ∈ ls ↔ x ∈ ties.map cd) (pw : ls.Pairwise fun a b => TS.code 64 a ≤ TS.code 64 b) : ls = ties.map cd := by
  unfold tieOk at ht
  simp only [Bool.and_eq_true, List.all_eq_true, decide_eq_true_eq] at ht
  obtain ⟨⟨hb, hp⟩, _⟩ := ht
  have nd2 : (ties.map cd).Nodup := by
    rw [List.Nodup, List.pairwise_map]
    exact hp.imp fun h e => by rw [cd_inj e] at h; exact Nat.lt_irrefl _ h
  have pw2 : (ties.map cd).Pairwise fun a b => TS.code 64 a ≤ TS.code 64 b := by
    rw [List.pairwise_map]
    exact hp.imp fun h => by rw [code_cd, code_cd]; exact Int.ofNat_le.mpr (Nat.le_of_lt h)
  have perm : ls.Perm (ties.map cd) := (List.perm_ext_iff_of_nodup nd nd2).mpr hm
  have anti : ∀ a b, a ∈ ties.map cd → b ∈ ties.map cd → TS.code 64 a ≤ TS.code 64 b → TS.code 64 b ≤ TS.code 64 a → a = b := fun a b ma mb h1 h2 => by
    obtain ⟨p, mp, rfl⟩ := List.mem_map.mp ma
    obtain ⟨q, mq, rfl⟩ := List.mem_map.mp mb
    rw [code_cd, code_cd] at h1 h2
    rw [codeN_inj (hb p mp).2 (hb q mq).2 (by omega)]
  first
    | exact perm.eq_of_pairwise (fun a b ma mb h1 h2 => anti a b ((hm a).mp ma) mb h1 h2) pw pw2
    | exact List.Perm.eq_of_pairwise (fun a b ma mb h1 h2 => anti a b ((hm a).mp ma) mb h1 h2) pw pw2 perm
    | exact List.Perm.eq_of_pairwise (fun a b ma mb h1 h2 => anti a b ((hm a).mp ma) ((hm b).mp mb) h1 h2) pw pw2 perm
theorem en_sortset {te : TE} {ρ : Rho} {ties : List (Nat × Nat)} (ht : tieOk ties = true) (h : EvD te ρ (tiesD ties)) : EvN (tCB (rSortedT K P w) (tCons (tCB (rSetOfT K P w) (tCons te tNil)) tNil)) ρ (ties.map tieD) := fun ps σ H ok Q q => h ps σ H ok _ fun v H1 e1 hv => by
  obtain ⟨a, xs, e2, n, h2, h3⟩ := of_lst hv
  subst e2
  obtain ⟨ks, g1, g2, g3⟩ := of_ties h3
  subst g1
  have hlen : ks.length = ties.length := by simpa using congrArg List.length g2
  have hb := ht
  unfold tieOk at hb
  simp only [Bool.and_eq_true, List.all_eq_true, decide_eq_true_eq] at hb
  refine ⟨a, ks, rfl, SqL.of h2, fun p m => SqT.of (g3 p m).1, by omega, fun s L ns sub all => ?_⟩
  have e3 : Same H1 (upd H1 s (SetTO P w s L)) := same_upd ns
  have hL : ∀ p ∈ L, p.2 ∈ ties.map cd := fun p m => by rw [← g2]; exact List.mem_map_of_mem (sub p m)
  refine ⟨s, L, 2, 64, rfl, upd_same, fun p m => SqT.of (e3 _ _ (g3 p (sub p m)).1), by decide, fun p m => ?_, fun L' p pm nd l64 pw np => ?_⟩
  · obtain ⟨t, mt, e⟩ := List.mem_map.mp (hL p m)
    rw [← e]
    refine ⟨rfl, fun x mx => ?_⟩
    have := hb.1.1 t mt
    simp only [cd, List.mem_cons, List.not_mem_nil, or_false] at mx
    rcases mx with mx | mx <;> subst mx <;> omega
  · have hm : ∀ x, x ∈ L'.map (·.2) ↔ x ∈ ties.map cd := fun x => by
      constructor
      · intro hx
        obtain ⟨y, my, rfl⟩ := List.mem_map.mp hx
        exact hL y (pm.mem_iff.mp my)
      · intro hx
        rw [← g2] at hx
        obtain ⟨y, my, rfl⟩ := List.mem_map.mp hx
        exact (pm.map (·.2)).mem_iff.mpr (all y my)
    have es := set_same ht nd hm (by rw [List.pairwise_map]; exact pw)
    have e4 : Same H1 (upd (upd H1 s (SetTO P w s L)) p (.lst (L'.map fun q => V.ref q.1))) := e3.trans (same_upd np)
    have np1 : H1 p = none := e3.free np
    refine q p _ _ (e1.free np1) (e1.trans e4) upd_same (to_ties es fun x mx => ?_)
    have hx := g3 x (sub x (pm.mem_iff.mp mx))
    refine hid_of (e4 _ _ hx.1) ?_
    simp only [List.mem_cons, not_or]
    exact ⟨fun z => by (rw [← z, hx.1] at np1; cases np1), hx.2⟩
abbrev spTold (n : Nat) : Sp := spF (pKd n) (f1 fun d => d)
theorem kd_len (k : Kd) : k.rest.length ≤ 2 := by cases k <;> simp [Kd.rest]
abbrev N_kind_as_told : List Str := ["value", "side", "row"]
theorem sc_kind_as_told : FnScope N_kind_as_told ["value"] (defScope s_kind_as_told) := ⟨rfl, rfl, rfl, by decide +kernel, rfl, by decide +kernel, by decide +kernel⟩
theorem ok_kind_as_told (T : Txt K mg w aS) (F : Stands K mg "kind_as_told" s_kind_as_told ["value"]) : ∀ n, Cal P w K mg base "kind_as_told" (n + 1) ["value"] (spTold n)
  | 0 => F.noneD sc_kind_as_told fun ds ⟨d, _, k, _, hd, _⟩ => by have := k.dep_pos; omega
  | n + 1 => by
    have C_kind_as_told := ok_kind_as_told T F n
    have nd := sc_kind_as_told.nd
    refine F.pure sc_kind_as_told (fun ds h => ?_) fun f cdv A outer s H E hr => ⟨_, (pss_cons (ps_if (pt_cmpR (k_inSd (K := K) (w := w) rfl rfl T.kd) (pe_ix (k_ix (K := K) rfl) (pv 0) pe_int (fun _ _ => rfl)) (pe_glob (v := .ref aS) (by rfl) T.SIDES rfl) (by rfl)) (pss_one (ps_ret (pe_op (k_catT (K := K) rfl) (pe_tup (pa_cons (pe_ix (k_ix (K := K) rfl) (pv 0) pe_int (fun _ _ => rfl)) pa_nil)) (pe_callTy (k_tuple (K := K) rfl) (by rfl) T.b_tuple bt_tuple (pa_cons (pe_lc (own := [("side", 1)]) (by rfl) nd (k_pt (K := K) rfl (pe_slice (k_sl (K := K) rfl) (pv 0) (po_some pe_int) po_none)) (blkOk_by (N := N_kind_as_told) (sc := (defScope s_kind_as_told)) (own := [("side", 1)]) (by decide +kernel)) (fun _ _ _ _ _ => (pg_name (i := 1) nd rfl (by first | exact Or.inl rfl | exact Or.inr rfl))) (fun _ _ _ _ _ => pts_nil) (fun _ _ _ _ _ => (pe_cal C_kind_as_told hr (by omega) (by rfl) (pa_cons (pv 1) pa_nil)))) pa_nil))))) pss_nil)
        (pss_cons (ps_if (pt_cmpR op_eq (pe_ix (k_ix (K := K) rfl) (pv 0) pe_int (fun _ _ => rfl)) pe_str (nomark _)) (pss_one (ps_ret (pe_tup (pa_cons pe_str (pa_cons (pe_ix (k_ix (K := K) rfl) (pv 0) pe_int (fun _ _ => rfl)) (pa_cons (pe_callB (k_sortedT (K := K) (P := P) (w := w) rfl rfl rfl rfl) (by rfl) T.b_sorted bt_sorted (pa_cons (pe_callTy (k_setOfT (K := K) (P := P) (w := w) rfl rfl rfl rfl hr.units) (by rfl) T.b_set bt_set (pa_cons (pe_ix (k_ix (K := K) rfl) (pv 0) pe_int (fun _ _ => rfl)) pa_nil)) pa_nil)) pa_nil)))))) pss_nil)
        (pss_one (ps_ret (pe_ifExp (pt_cmpR op_eq (pe_ix (k_ix (K := K) rfl) (pv 0) pe_int (fun _ _ => rfl)) pe_str (nomark _)) (pe_tup (pa_cons pe_str (pa_cons (pe_lc (own := [("row", 2)]) (by rfl) nd (k_pl (K := K) rfl (pe_ix (k_ix (K := K) rfl) (pv 0) pe_int (fun _ _ => rfl))) (blkOk_by (N := N_kind_as_told) (sc := (defScope s_kind_as_told)) (own := [("row", 2)]) (by decide +kernel)) (fun _ _ _ _ _ => (pg_name (i := 2) nd rfl (by first | exact Or.inl rfl | exact Or.inr rfl))) (fun _ _ _ _ _ => pts_nil) (fun _ _ _ _ _ => (pe_callTy (k_list (K := K) rfl) (by rfl) T.b_list bt_list (pa_cons (pv 2) pa_nil)))) pa_nil))) (pe_callTy (k_tuple (K := K) rfl) (by rfl) T.b_tuple bt_tuple (pa_cons (pv 0) pa_nil))))))), fun ds h => ?_⟩
    · exact p1_len h
    · obtain ⟨d, rfl, k, hk, hd, rfl⟩ := h
      show SvO _ [some k.data, none, none] (.ret k.data)
      have W0 : EvD (tOp (rIx K) (tVar 0) (tC (.int 0))) [some k.data, none, none] (.str k.word) := ev_word (ev_var rfl)
      have sd : EvT (tTest (tOp (rInSd K aS) (tOp (rIx K) (tVar 0) (tC (.int 0))) (tC (.ref aS)))) [some k.data, none, none] k.big := et_test (ev_inSd W0 (Kd.sd T k))
      have V : ∀ (i : Nat) d, k.rest[i]? = some d → EvD (tOp (rIx K) (tVar 0) (tC (.int ((i + 1 : Nat) : Int)))) [some k.data, none, none] d := fun i d e => ev_part (ev_var rfl) ev_int e
      have Wd : ∀ (z : Str) b, decide (k.word = z) = b → EvT (tTest (tOp rEq (tOp (rIx K) (tVar 0) (tC (.int 0))) (tC (.str z)))) [some k.data, none, none] b := fun z b e => (et_test (ev_op W0 ev_str rv_eqS)).is e
      by_cases hb : k.big = true
      · refine sv_whenT (sd.is hb) (sv_ret ?_)
        have hr2 := k.rest_subs hb
        have e0 : k.data = .tuple (.str k.word :: k.subs.map Kd.data) := by rw [k.data_eq, hr2]
        have hsl := k.subs_len
        have sl := ev_from1 (K := K) (te := tVar 0) (d := k.data) (ρ := [some k.data, none, none]) (ds := .str k.word :: k.subs.map Kd.data) (ev_var rfl) (by rw [e0]; exact .t _)
        have sl := sl.is (d' := .tuple (k.subs.map Kd.data)) (by rw [e0]; rfl)
        refine (ev_op (ev_tup (ea_one W0) (by simp)) (ev_tupOf (EvN.toD (en_lc1 k.subs Kd.data Kd.data (fun s => _) (is_tup sl) (by omega) (fun _ _ => gt_name (List.mem_singleton.mpr rfl)) fun s hs => ?_)) (.l _)) (rv_catT ?_)).is ?_
        · exact ev_callIs (ea_one (ev_var rfl)) ⟨_, rfl, s, Kd.sub_ok hk hs, by have := Kd.sub_dep hs; omega, rfl⟩ rfl
        · simp only [List.length_map, List.length_cons, List.length_nil]; omega
        · rw [e0]; rfl
      · have hb : k.big = false := by simpa using hb
        refine sv_whenF (sd.is hb) ?_
        cases k with
        | count => exact sv_whenF (Wd _ _ rfl) (sv_ret (ev_ifF (Wd _ _ rfl) (ev_tupOf (ev_var rfl) (.t _))))
        | row m => exact sv_whenF (Wd _ _ rfl) (sv_ret (ev_ifF (Wd _ _ rfl) (ev_tupOf (ev_var rfl) (.t _))))
        | tab rows =>
          have ht : rows ∈ okTabs := by simpa [Kd.ok] using hk
          obtain ⟨⟨h8, _⟩, hrow, _⟩ := tab_ok rows ht
          refine sv_whenF (Wd _ _ rfl) (sv_ret (ev_ifT (Wd _ _ rfl) (ev_tup (ea_two ev_str (EvN.toD (en_lc1 rows rowD rowD (fun r => _) (is_list (V 0 _ rfl)) (by omega) (fun _ _ => gt_name (List.mem_singleton.mpr rfl)) fun r hr' => ?_))) (by simp))))
          exact EvN.toD (en_list (ev_var rfl) (.l _))
        | tops m ties =>
          have ht : (m, ties) ∈ okTops := by simpa [Kd.ok] using hk
          exact sv_whenT (Wd _ _ rfl) (sv_ret (ev_tup (ea_cons ev_str (ea_two (V 0 _ rfl) (EvN.toD (en_sortset (tops_tie _ ht) (V 1 _ rfl))))) (by simp)))
        | map _ => cases hb
        | two _ _ _ => cases hb
        | above _ _ => cases hb
abbrev spWant : Sp := spF (p1 fun d => ∃ k : Kd, k.ok = true ∧ k.dep ≤ 4 ∧ k.size ≤ 12 ∧ d = k.data) (f1 fun d => d)
abbrev N_want_kind : List Str := ["value"]
theorem sc_want_kind : FnScope N_want_kind ["value"] (defScope s_want_kind) := ⟨rfl, rfl, rfl, by decide +kernel, rfl, by decide +kernel, by decide +kernel⟩
theorem ok_want_kind  (T : Txt K mg w aS) (F : Stands K mg "want_kind" s_want_kind ["value"]) (C_is_kind_value : Cal P w K mg base "is_kind_value" 6 ["value"] (spKd)) (C_kind_as_told : Cal P w K mg base "kind_as_told" 5 ["value"] (spTold 4))  : Cal P w K mg base "want_kind" 7 ["value"] (spF (p1 fun d => ∃ k : Kd, k.ok = true ∧ k.dep ≤ 4 ∧ k.size ≤ 12 ∧ d = k.data) (f1 fun d => d)) := by
  have nd := sc_want_kind.nd
  refine F.pure sc_want_kind (fun ds h => ?_) fun f cdv A outer s H E hr => ⟨_, (pss_cons (ps_if (pt_not (pt_val (pe_cal C_is_kind_value hr (by omega) (by rfl) (pa_cons (pv 0) pa_nil)))) (pss_one ps_never) pss_nil)
        (pss_one (ps_ret (pe_cal C_kind_as_told hr (by omega) (by rfl) (pa_cons (pv 0) pa_nil))))), fun ds h => ?_⟩
  · exact p1_len h
  · obtain ⟨d, rfl, k, hk, hd, hz, rfl⟩ := h
    exact sv_whenF (et_notT (et_B (ev_callIs (ea_one (ev_var rfl)) ⟨_, rfl, k, hk, hd, hz, rfl⟩ rfl))) (sv_ret (ev_callIs (ea_one (ev_var rfl)) ⟨_, rfl, k, hk, hd, rfl⟩ rfl))
end
end Pm
namespace Pm
open PySem PySem.Spec PyProof.Rows L2
section
variable {P : Program} {w : World} {K : PySem.W.Frag} {mg : Str → Option Value} {base : Heap} {aS : Addr}

abbrev Sv (d : PyData) : Prop := Sm 30000 40 d
theorem wt_pos : ∀ d : PyData, fine d = true → 3 ≤ wt d
  | .none, _ => by simp [wt]
  | .bool _, _ => by simp [wt]
  | .int _, _ => by simp [wt]
  | .str _, _ => by simp [wt]
  | .list _, _ => by simp [wt]
  | .tuple _, _ => by simp [wt]
  | .dict _, h => by simp [fine] at h
theorem sm_nil {n m : Nat} {d : PyData} (h : Sm n m d) : Sm n (m + 1) (.list []) := ⟨by simp [fine, fineA], by have := wt_pos d h.f; have := h.w; simp only [wt, wtA]; omega, by simp [PyData.depth, PyData.depthAll]⟩
theorem sm_int {n m : Nat} {i : Int} (hn : 12 ≤ n) (h1 : -1 ≤ i) (h2 : i ≤ 9) : Sm n m (.int i) := ⟨by simp [fine, h1, h2], by simpa [wt] using hn, by simp [PyData.depth]⟩
theorem Sm.seq {n m : Nat} {d : PyData} {ds : List PyData} (h : Sm n m d) (hs : IsSeq d ds) : fineA ds = true ∧ wtA ds + 3 ≤ n ∧ PyData.depthAll ds + 1 ≤ m := by
  cases hs
  · exact ⟨by simpa [fine] using h.f, by simpa [wt] using h.w, by simpa [PyData.depth] using h.d⟩
  · exact ⟨by simpa [fine] using h.f, by simpa [wt] using h.w, by simpa [PyData.depth] using h.d⟩
theorem sm_list {n m : Nat} {ds : List PyData} (h : fineA ds = true ∧ wtA ds + 3 ≤ n ∧ PyData.depthAll ds + 1 ≤ m) : Sm n m (.list ds) := ⟨by simpa [fine] using h.1, by simpa [wt] using h.2.1, by simpa [PyData.depth] using h.2.2⟩
theorem sm_tup {n m : Nat} {ds : List PyData} (h : fineA ds = true ∧ wtA ds + 3 ≤ n ∧ PyData.depthAll ds + 1 ≤ m) : Sm n m (.tuple ds) := ⟨by simpa [fine] using h.1, by simpa [wt] using h.2.1, by simpa [PyData.depth] using h.2.2⟩
/-- no larger -/
structure Le (e d : PyData) : Prop where
  f : fine d = true → fine e = true
  w : wt e ≤ wt d
  d : e.depth ≤ d.depth
theorem Le.refl (d : PyData) : Le d d := ⟨fun h => h, Nat.le_refl _, Nat.le_refl _⟩
theorem Le.sm {n m : Nat} {e d : PyData} (l : Le e d) (h : Sm n m d) : Sm n m e := ⟨l.f h.f, Nat.le_trans l.w h.w, Nat.le_trans l.d h.d⟩
theorem leA {g : PyData → PyData} (hg : ∀ d, Le (g d) d) : ∀ ds : List PyData, (fineA ds = true → fineA (ds.map g) = true) ∧ wtA (ds.map g) ≤ wtA ds ∧ PyData.depthAll (ds.map g) ≤ PyData.depthAll ds
  | [] => ⟨fun h => h, Nat.le_refl _, Nat.le_refl _⟩
  | d :: ds => by
    obtain ⟨h1, h2, h3⟩ := leA hg ds
    have h := hg d
    have hw := h.w
    have hd := h.d
    refine ⟨fun z => ?_, ?_, ?_⟩
    · simp only [fineA, Bool.and_eq_true, List.map_cons] at z ⊢
      exact ⟨h.f z.1, h1 z.2⟩
    · simp only [wtA, List.map_cons]; omega
    · simp only [PyData.depthAll, List.map_cons]; omega
theorem le_two {x y x' y' : PyData} (hx : Le x' x) (hy : Le y' y) : Le (.tuple [x', y']) (.tuple [x, y]) := by
  have h1 := hx.w
  have h2 := hx.d
  have h3 := hy.w
  have h4 := hy.d
  refine ⟨fun z => ?_, ?_, ?_⟩
  · simp only [fine, fineA, Bool.and_true, Bool.and_eq_true] at z ⊢
    exact ⟨hx.f z.1, hy.f z.2⟩
  · simp only [wt, wtA]; omega
  · simp only [PyData.depth, PyData.depthAll]; omega
theorem seq_le {d : PyData} : fine d = true → Le (.list (sq d)) d ∨ sq d = [] := fun h => by
  cases d with
  | list ds => exact .inl (Le.refl _)
  | tuple ds => exact .inl ⟨fun z => by simpa [fine, sq, seqOf] using z, by simp [wt, sq, seqOf], by simp [PyData.depth, sq, seqOf]⟩
  | _ => exact .inr rfl
/-- what is told is no larger, one level more at most -/
theorem told_sm : ∀ (k : Kd) {n m : Nat} {d : PyData}, Sm n m d → isSt k d = true → Le (told k d) d
  | .count, n, m, d, h, hs => Le.refl _
  | .row _, n, m, d, h, hs => Le.refl _
  | .tab _, n, m, d, h, hs => Le.refl _
  | .tops _ _, n, m, d, h, hs => by
    cases d with
    | list ds => exact Le.refl _
    | tuple ds => exact ⟨fun z => by simpa [fine, told, sq, seqOf] using z, by simp [wt, told, sq, seqOf], by simp [PyData.depth, told, sq, seqOf]⟩
    | _ => simp [isSt, isLot, seqOf] at hs
  | .map k, n, m, d, h, hs => by
    have core : ∀ ds, IsSeq d ds → Le (.list (ds.map (entBy (told k)))) d := fun ds hd => by
      have hh : ∀ e ∈ ds, Le (entBy (told k) e) e := fun e he => by
        have hse := h.mem hd he
        have hx : entOk (fun y => isSt k y && !PyData.eqv (told k y) (least k)) e = true := by
          have : seqOf d = some ds := hd.of
          simp only [isSt, this, Bool.and_eq_true, List.all_eq_true] at hs
          exact hs.1 e he
        cases e with
        | tuple es =>
          match es, hse, hx with
          | [x, y], hse, hx =>
            simp only [entOk, Bool.and_eq_true] at hx
            exact le_two (Le.refl x) (told_sm k (hse.memT (by simp)) hx.2.1)
          | [], _, hx => simp [entOk] at hx
          | [_], _, hx => simp [entOk] at hx
          | _ :: _ :: _ :: _, _, hx => simp [entOk] at hx
        | _ => simp [entOk] at hx
      have hA : (fineA ds = true → fineA (ds.map (entBy (told k))) = true) ∧ wtA (ds.map (entBy (told k))) ≤ wtA ds ∧ PyData.depthAll (ds.map (entBy (told k))) ≤ PyData.depthAll ds := by
        clear hd hs h
        induction ds with
        | nil => exact ⟨fun h => h, Nat.le_refl _, Nat.le_refl _⟩
        | cons e r ih =>
          obtain ⟨h1, h2, h3⟩ := ih fun e m => hh e (List.mem_cons_of_mem _ m)
          have g := hh e List.mem_cons_self
          have gw := g.w
          have gd := g.d
          refine ⟨fun z => ?_, ?_, ?_⟩
          · simp only [fineA, Bool.and_eq_true, List.map_cons] at z ⊢
            exact ⟨g.f z.1, h1 z.2⟩
          · simp only [wtA, List.map_cons]; omega
          · simp only [PyData.depthAll, List.map_cons]; omega
      obtain ⟨a1, a2, a3⟩ := hA
      cases hd
      · exact ⟨fun z => by simp only [fine] at z ⊢; exact a1 z, by simp only [wt]; omega, by simp only [PyData.depth]; omega⟩
      · exact ⟨fun z => by simp only [fine] at z ⊢; exact a1 z, by simp only [wt]; omega, by simp only [PyData.depth]; omega⟩
    cases d with
    | list ds => exact core ds (.l _)
    | tuple ds => exact core ds (.t _)
    | _ => simp [isSt, seqOf] at hs
  | .two l a b, n, m, d, h, hs => by
    cases d with
    | tuple es =>
      match es, h, hs with
      | [x, y], h, hs =>
        simp only [isSt, Bool.and_eq_true] at hs
        exact le_two (told_sm a (h.memT (by simp)) hs.1) (told_sm b (h.memT (by simp)) hs.2)
      | [], _, hs => simp [isSt] at hs
      | [_], _, hs => simp [isSt] at hs
      | _ :: _ :: _ :: _, _, hs => simp [isSt] at hs
    | _ => simp [isSt] at hs
  | .above a b, n, m, d, h, hs => by
    cases d with
    | tuple es =>
      match es, h, hs with
      | [.str s, y], h, hs =>
        simp only [isSt] at hs
        show Le (.tuple [.str s, if s = "low" then told a y else told b y]) _
        by_cases z : s = "low"
        · rw [if_pos z] at hs ⊢
          exact le_two (Le.refl _) (told_sm a (h.memT (by simp)) hs)
        · rw [if_neg z] at hs ⊢
          by_cases z2 : s = "high"
          · rw [if_pos z2] at hs
            exact le_two (Le.refl _) (told_sm b (h.memT (by simp)) hs)
          · rw [if_neg z2] at hs; cases hs
      | [], _, hs => simp [isSt] at hs
      | [.none], _, hs => simp [isSt] at hs
      | [.bool _], _, hs => simp [isSt] at hs
      | [.int _], _, hs => simp [isSt] at hs
      | [.str _], _, hs => simp [isSt] at hs
      | [.list _], _, hs => simp [isSt] at hs
      | [.tuple _], _, hs => simp [isSt] at hs
      | [.dict _], _, hs => simp [isSt] at hs
      | [.none, _], _, hs => simp [isSt] at hs
      | [.bool _, _], _, hs => simp [isSt] at hs
      | [.int _, _], _, hs => simp [isSt] at hs
      | [.list _, _], _, hs => simp [isSt] at hs
      | [.tuple _, _], _, hs => simp [isSt] at hs
      | [.dict _, _], _, hs => simp [isSt] at hs
      | x :: _ :: _ :: _, _, hs => cases x <;> simp [isSt] at hs
    | _ => simp [isSt] at hs
theorem least_le : ∀ k : Kd, fine (least k) = true ∧ wt (least k) + 7 ≤ 19 * 2 ^ (k.dep - 1) ∧ (least k).depth ≤ k.dep
  | .count => by simp [least, fine, wt, Kd.dep, PyData.depth]
  | .row _ => by simp [least, fine, wt, Kd.dep, PyData.depth]
  | .tab _ => by simp [least, fine, wt, Kd.dep, PyData.depth]
  | .tops _ _ => by simp [least, fine, fineA, wt, wtA, Kd.dep, PyData.depth, PyData.depthAll]
  | .map k => by
    have h1 : 1 ≤ 2 ^ k.dep := Nat.one_le_two_pow
    simp only [least, fine, fineA, wt, wtA, Kd.dep, PyData.depth, PyData.depthAll, Nat.add_sub_cancel]
    exact ⟨trivial, by omega, by omega⟩
  | .two l a b => by
    obtain ⟨a1, a2, a3⟩ := least_le a
    obtain ⟨b1, b2, b3⟩ := least_le b
    have pa := a.dep_pos
    have pb := b.dep_pos
    have ea : 2 ^ (a.dep - 1) ≤ 2 ^ (max a.dep b.dep - 1) := Nat.pow_le_pow_right (by decide) (by omega)
    have eb : 2 ^ (b.dep - 1) ≤ 2 ^ (max a.dep b.dep - 1) := Nat.pow_le_pow_right (by decide) (by omega)
    have e2 : 2 ^ (max a.dep b.dep + 1 - 1) = 2 * 2 ^ (max a.dep b.dep - 1) := by
      rw [← Nat.pow_succ']; congr 1; omega
    simp only [least, fine, fineA, wt, wtA, Kd.dep, PyData.depth, PyData.depthAll, a1, b1]
    rw [e2]
    exact ⟨rfl, by omega, by omega⟩
  | .above a b => by
    obtain ⟨a1, a2, a3⟩ := least_le a
    have pa := a.dep_pos
    have ea : 2 ^ (a.dep - 1) ≤ 2 ^ (max a.dep b.dep - 1) := Nat.pow_le_pow_right (by decide) (by omega)
    have e2 : 2 ^ (max a.dep b.dep + 1 - 1) = 2 * 2 ^ (max a.dep b.dep - 1) := by
      rw [← Nat.pow_succ']; congr 1; omega
    have e1 : 1 ≤ 2 ^ (max a.dep b.dep - 1) := Nat.one_le_two_pow
    have hl : fine (.str "low") = true := by decide +kernel
    simp only [least, fineA, wt, wtA, Kd.dep, PyData.depth, PyData.depthAll, a1]
    rw [e2]
    refine ⟨by simp only [fine, fineA, a1]; exact (by simpa [fine] using hl), by omega, by omega⟩
theorem least_sm {k : Kd} (h : k.dep ≤ 4) : Sm 200 4 (least k) := by
  obtain ⟨h1, h2, h3⟩ := least_le k
  have e : 2 ^ (k.dep - 1) ≤ 2 ^ 3 := Nat.pow_le_pow_right (by decide) (by omega)
  exact ⟨h1, by omega, by omega⟩
abbrev pK1 (n : Nat) : PyData → Prop := fun d => ∃ k : Kd, k.ok = true ∧ k.dep ≤ n ∧ d = k.data
/-- the kind behind its data -/
def kOfSd : PyData → Kd → Prop := fun d k => d = k.data
def natsOf (d : PyData) : List Nat := (sq d).map natOf
def tabOf (d : PyData) : List (List Nat) := (sq d).map natsOf
def kindOf : PyData → Kd
  | .tuple [.str w] => .count
  | .tuple [.str w, x] => if w = "row" then .row (natOf x) else if w = "table" then .tab (tabOf x) else .map (kindOf x)
  | .tuple [.str w, x, y] => if w = "tops" then .tops (natOf x) ((sq y).map unTie) else if w = "above" then .above (kindOf x) (kindOf y) else .two (decide (w = "later")) (kindOf x) (kindOf y)
  | _ => .count
theorem kindOf_data : ∀ k : Kd, kindOf k.data = k
  | .count => rfl
  | .row n => by simp [Kd.data, kindOf, nat_nD]
  | .tab rows => by
    have h : ("table" : Str) ≠ "row" := by decide +kernel
    have e : tabOf (rowsD rows) = rows := by
      unfold tabOf
      show (rows.map rowD).map natsOf = rows
      rw [List.map_map]
      exact (List.map_congr_left fun r _ => (nat_ns r : natsOf (rowD r) = r)).trans (List.map_id rows)
    simp [Kd.data, kindOf, h, e]
  | .tops n ties => by
    have e : (sq (tiesD ties)).map unTie = ties := un_ties ties
    simp [Kd.data, kindOf, nat_nD, e]
  | .map k => by
    have h1 : ("map" : Str) ≠ "row" := by decide +kernel
    have h2 : ("map" : Str) ≠ "table" := by decide +kernel
    simp [Kd.data, kindOf, h1, h2, kindOf_data k]
  | .two l a b => by
    have h1 : wordT l ≠ "tops" := by cases l <;> decide +kernel
    have h2 : wordT l ≠ "above" := by cases l <;> decide +kernel
    have h3 : decide (wordT l = "later") = l := by cases l <;> decide +kernel
    simp only [Kd.data, kindOf]
    rw [if_neg h1, if_neg h2, h3, kindOf_data a, kindOf_data b]
  | .above a b => by
    have h1 : ("above" : Str) ≠ "tops" := by decide +kernel
    simp [Kd.data, kindOf, h1, kindOf_data a, kindOf_data b]
def leastF (d : PyData) : PyData := least (kindOf d)
theorem leastF_is (k : Kd) : leastF k.data = least k := by unfold leastF; rw [kindOf_data]
abbrev spLeast (n : Nat) : Sp := spF (p1 (pK1 n)) (f1 leastF)
def toldF (d e : PyData) : PyData := told (kindOf d) e
theorem toldF_is (k : Kd) (e : PyData) : toldF k.data e = told k e := by unfold toldF; rw [kindOf_data]
def pTold (n : Nat) (d e : PyData) : Prop := ∃ k : Kd, k.ok = true ∧ k.dep ≤ n ∧ d = k.data ∧ isSt k e = true ∧ Sv e
abbrev spToldS (n : Nat) : Sp := spF (p2 (pTold n)) (f2 toldF)
theorem flat_seq {d : PyData} (h : seqOf d = none) (hn : noDict d = true) : (isLst d || isTup d) = false := by cases d <;> first | rfl | cases h | cases hn
/-- pairs -/
def tup2 (p : PyData × PyData) : PyData := .tuple [p.1, p.2]
theorem ents {f : PyData → Bool} : ∀ {es : List PyData}, es.all (entOk f) = true → ∃ prs : List (PyData × PyData), es = prs.map tup2 ∧ ∀ p ∈ prs, isName p.1 = true ∧ f p.2 = true
  | [], _ => ⟨[], rfl, fun p m => nomatch m⟩
  | e :: r, h => by
    simp only [List.all_cons, Bool.and_eq_true] at h
    obtain ⟨prs, h1, h2⟩ := ents h.2
    have hx := h.1
    cases e with
    | tuple es =>
      match es, hx with
      | [x, y], hx =>
        simp only [entOk, Bool.and_eq_true] at hx
        refine ⟨(x, y) :: prs, by rw [h1]; rfl, fun p m => ?_⟩
        rcases List.mem_cons.mp m with m | m
        · subst m; exact hx
        · exact h2 p m
      | [], hx => simp [entOk] at hx
      | [_], hx => simp [entOk] at hx
      | _ :: _ :: _ :: _, hx => simp [entOk] at hx
    | _ => simp [entOk] at hx
def isPair : PyData → Bool
  | .tuple [_, _] => true
  | _ => false
theorem et_pair {te : TE} {ρ : Rho} {d : PyData} (h : EvD te ρ d) (hn : noDict d = true) : EvT (tOr (tNot (tB (tCB (rIsi K) (tCons te (tCons (tC (.ty "tuple")) tNil))))) (tTest (tOp rNe (tCB (rLenA K) (tCons te tNil)) (tC (.int 2))))) ρ (!isPair d) := by
  cases d with
  | tuple es =>
    refine et_orF (et_notT (et_B (ev_isi h (kit_tup rfl)))) ((et_test (ev_op (ev_cb (ea_one h) rc_lenT) ev_int rv_neI)).is ?_)
    match es with
    | [] => rfl
    | [_] => rfl
    | [_, _] => rfl
    | _ :: _ :: _ :: r =>
      show (!decide (((r.length + 1 + 1 + 1 : Nat) : Int) = 2)) = true
      rw [decide_eq_false (by omega)]; rfl
  | dict _ => cases hn
  | _ => exact et_orT (et_notF (et_B (ev_isi h (kit_tup rfl))))
theorem pair_of {d : PyData} (h : isPair d = true) : ∃ x y, d = .tuple [x, y] := by
  cases d with
  | tuple es =>
    match es, h with
    | [x, y], _ => exact ⟨x, y, rfl⟩
  | _ => cases h
theorem has3 (k : Kd) : (["count", "row", "table"] : List Str).contains k.word = (match k with | .count => true | .row _ => true | .tab _ => true | _ => false) := by
  cases k with
  | two l _ _ => cases l <;> rfl
  | _ => rfl
theorem has2 (k : Kd) : (["tops", "map"] : List Str).contains k.word = (match k with | .tops _ _ => true | .map _ => true | _ => false) := by
  cases k with
  | two l _ _ => cases l <;> rfl
  | _ => rfl
theorem word_above (k : Kd) : decide (k.word = "above") = (match k with | .above _ _ => true | _ => false) := by
  cases k with
  | two l _ _ => cases l <;> rfl
  | _ => rfl
theorem word_map (k : Kd) : decide (k.word = "map") = (match k with | .map _ => true | _ => false) := by
  cases k with
  | two l _ _ => cases l <;> rfl
  | _ => rfl
theorem word_tops (k : Kd) : decide (k.word = "tops") = (match k with | .tops _ _ => true | _ => false) := by
  cases k with
  | two l _ _ => cases l <;> rfl
  | _ => rfl
theorem word_count (k : Kd) : decide (k.word = "count") = (match k with | .count => true | _ => false) := by
  cases k with
  | two l _ _ => cases l <;> rfl
  | _ => rfl
theorem word_row (k : Kd) : decide (k.word = "row") = (match k with | .row _ => true | _ => false) := by
  cases k with
  | two l _ _ => cases l <;> rfl
  | _ => rfl
theorem word_table (k : Kd) : decide (k.word = "table") = (match k with | .tab _ => true | _ => false) := by
  cases k with
  | two l _ _ => cases l <;> rfl
  | _ => rfl
abbrev N_least_by_kind : List Str := ["kind"]
theorem sc_least_by_kind : FnScope N_least_by_kind ["kind"] (defScope s_least_by_kind) := ⟨rfl, rfl, rfl, by decide +kernel, rfl, by decide +kernel, by decide +kernel⟩
theorem ok_least_by_kind (T : Txt K mg w aS) (F : Stands K mg "least_by_kind" s_least_by_kind ["kind"]) : ∀ n, Cal P w K mg base "least_by_kind" (n + 1) ["kind"] (spLeast n)
  | 0 => F.noneD sc_least_by_kind fun ds ⟨d, _, k, _, hd, _⟩ => by have := k.dep_pos; omega
  | n + 1 => by
    have C_least_by_kind := ok_least_by_kind T F n
    have nd := sc_least_by_kind.nd
    refine F.pure sc_least_by_kind (fun ds h => ?_) fun f cdv A outer s H E hr => ⟨_, (pss_cons (ps_if (pt_cmpR (k_in (K := K) rfl) (pe_ix (k_ix (K := K) rfl) (pv 0) pe_int (fun _ _ => rfl)) (pe_tup (pa_cons pe_str (pa_cons pe_str (pa_cons pe_str pa_nil)))) (by rfl)) (pss_one (ps_ret pe_int)) pss_nil)
        (pss_cons (ps_if (pt_cmpR (k_in (K := K) rfl) (pe_ix (k_ix (K := K) rfl) (pv 0) pe_int (fun _ _ => rfl)) (pe_tup (pa_cons pe_str (pa_cons pe_str pa_nil))) (by rfl)) (pss_one (ps_ret (pe_lst pa_nil))) pss_nil)
        (pss_cons (ps_if (pt_cmpR op_eq (pe_ix (k_ix (K := K) rfl) (pv 0) pe_int (fun _ _ => rfl)) pe_str (nomark _)) (pss_one (ps_ret (pe_tup (pa_cons pe_str (pa_cons (pe_cal C_least_by_kind hr (by omega) (by rfl) (pa_cons (pe_ix (k_ix (K := K) rfl) (pv 0) pe_int (fun _ _ => rfl)) pa_nil)) pa_nil))))) pss_nil)
        (pss_one (ps_ret (pe_tup (pa_cons (pe_cal C_least_by_kind hr (by omega) (by rfl) (pa_cons (pe_ix (k_ix (K := K) rfl) (pv 0) pe_int (fun _ _ => rfl)) pa_nil)) (pa_cons (pe_cal C_least_by_kind hr (by omega) (by rfl) (pa_cons (pe_ix (k_ix (K := K) rfl) (pv 0) pe_int (fun _ _ => rfl)) pa_nil)) pa_nil)))))))), fun ds h => ?_⟩
    · exact p1_len h
    · obtain ⟨d, rfl, k, hk, hd, rfl⟩ := h
      show SvO _ [some k.data] (.ret (leastF k.data))
      rw [leastF_is]
      have W0 : EvD (tOp (rIx K) (tVar 0) (tC (.int 0))) [some k.data] (.str k.word) := ev_word (ev_var rfl)
      have V : ∀ (i : Nat) d, k.rest[i]? = some d → EvD (tOp (rIx K) (tVar 0) (tC (.int ((i + 1 : Nat) : Int)))) [some k.data] d := fun i d e => ev_part (ev_var rfl) ev_int e
      have R : ∀ (s : Kd), s ∈ k.subs → pK1 n s.data := fun s hs => ⟨s, Kd.sub_ok hk hs, by have := Kd.sub_dep hs; omega, rfl⟩
      refine sv_when (et_test (ev_op W0 (ev_tup (ea_cons ev_str (ea_two ev_str ev_str)) (by simp)) (rv_inTS ["count", "row", "table"] rfl))) (fun hb => sv_stop (sv_ret ?_)) fun hb => ?_
      · rw [has3] at hb
        cases k <;> first | exact ev_int | cases hb
      rw [has3] at hb
      refine sv_when (et_test (ev_op W0 (ev_tup (ea_two ev_str ev_str) (by simp)) (rv_inTS ["tops", "map"] rfl))) (fun hb => sv_stop (sv_ret ?_)) fun hb2 => ?_
      · rw [has2] at hb
        cases k <;> first | exact EvN.toD (en_lst ea_nil (by decide)) | cases hb
      rw [has2] at hb2
      refine sv_when (et_test (ev_op W0 ev_str rv_eqS)) (fun hb => sv_stop (sv_ret ?_)) fun hb3 => sv_ret ?_
      · rw [word_above] at hb
        cases k with
        | above a b => exact ev_tup (ea_two ev_str (ev_callIs (ea_one (V 0 _ rfl)) ⟨_, rfl, R a (by simp [Kd.subs])⟩ (leastF_is a))) (by simp)
        | _ => cases hb
      · rw [word_above] at hb3
        cases k with
        | two l a b => exact ev_tup (ea_two (ev_callIs (ea_one (V 0 _ rfl)) ⟨_, rfl, R a (by simp [Kd.subs])⟩ (leastF_is a)) (ev_callIs (ea_one (V 1 _ rfl)) ⟨_, rfl, R b (by simp [Kd.subs])⟩ (leastF_is b))) (by simp)
        | above _ _ => cases hb3
        | tops _ _ => cases hb2
        | map _ => cases hb2
        | _ => cases hb
abbrev N_state_as_told : List Str := ["kind", "value", "name", "state"]
theorem sc_state_as_told : FnScope N_state_as_told ["kind", "value"] (defScope s_state_as_told) := ⟨rfl, rfl, rfl, by decide +kernel, rfl, by decide +kernel, by decide +kernel⟩
theorem ok_state_as_told (T : Txt K mg w aS) (F : Stands K mg "state_as_told" s_state_as_told ["kind", "value"]) : ∀ n, Cal P w K mg base "state_as_told" (n + 1) ["kind", "value"] (spToldS n)
  | 0 => F.noneD sc_state_as_told fun ds ⟨d, e, _, k, _, hd, _⟩ => by have := k.dep_pos; omega
  | n + 1 => by
    have C_state_as_told := ok_state_as_told T F n
    have nd := sc_state_as_told.nd
    refine F.pure sc_state_as_told (fun ds h => ?_) fun f cdv A outer s H E hr => ⟨_, (pss_cons (ps_if (pt_cmpR (k_in (K := K) rfl) (pe_ix (k_ix (K := K) rfl) (pv 0) pe_int (fun _ _ => rfl)) (pe_tup (pa_cons pe_str (pa_cons pe_str (pa_cons pe_str pa_nil)))) (by rfl)) (pss_one (ps_ret (pv 1))) pss_nil)
        (pss_cons (ps_if (pt_cmpR op_eq (pe_ix (k_ix (K := K) rfl) (pv 0) pe_int (fun _ _ => rfl)) pe_str (nomark _)) (pss_one (ps_ret (pe_callTy (k_list (K := K) rfl) (by rfl) T.b_list bt_list (pa_cons (pv 1) pa_nil)))) pss_nil)
        (pss_cons (ps_if (pt_cmpR op_eq (pe_ix (k_ix (K := K) rfl) (pv 0) pe_int (fun _ _ => rfl)) pe_str (nomark _)) (pss_one (ps_ret (pe_lc (own := [("name", 2), ("state", 3)]) (by rfl) nd (k_pe (K := K) rfl (pv 1)) (blkOk_by (N := N_state_as_told) (sc := (defScope s_state_as_told)) (own := [("name", 2), ("state", 3)]) (by decide +kernel)) (fun _ _ _ _ _ => (k_gt (n := 2) (K := K) rfl rfl (pgs_cons (pg_name (i := 2) nd rfl (by first | exact Or.inl rfl | exact Or.inr rfl)) (pgs_cons (pg_name (i := 3) nd rfl (by first | exact Or.inl rfl | exact Or.inr rfl)) pgs_nil)))) (fun _ _ _ _ _ => pts_nil) (fun _ _ _ _ _ => (pe_tup (pa_cons (pv 2) (pa_cons (pe_cal C_state_as_told hr (by omega) (by rfl) (pa_cons (pe_ix (k_ix (K := K) rfl) (pv 0) pe_int (fun _ _ => rfl)) (pa_cons (pv 3) pa_nil))) pa_nil))))))) pss_nil)
        (pss_cons (ps_if (pt_cmpR op_eq (pe_ix (k_ix (K := K) rfl) (pv 0) pe_int (fun _ _ => rfl)) pe_str (nomark _)) (pss_one (ps_ret (pe_tup (pa_cons (pe_ix (k_ix (K := K) rfl) (pv 1) pe_int (fun _ _ => rfl)) (pa_cons (pe_cal C_state_as_told hr (by omega) (by rfl) (pa_cons (pe_ifExp (pt_cmpR op_eq (pe_ix (k_ix (K := K) rfl) (pv 1) pe_int (fun _ _ => rfl)) pe_str (nomark _)) (pe_ix (k_ix (K := K) rfl) (pv 0) pe_int (fun _ _ => rfl)) (pe_ix (k_ix (K := K) rfl) (pv 0) pe_int (fun _ _ => rfl))) (pa_cons (pe_ix (k_ix (K := K) rfl) (pv 1) pe_int (fun _ _ => rfl)) pa_nil))) pa_nil))))) pss_nil)
        (pss_one (ps_ret (pe_tup (pa_cons (pe_cal C_state_as_told hr (by omega) (by rfl) (pa_cons (pe_ix (k_ix (K := K) rfl) (pv 0) pe_int (fun _ _ => rfl)) (pa_cons (pe_ix (k_ix (K := K) rfl) (pv 1) pe_int (fun _ _ => rfl)) pa_nil))) (pa_cons (pe_cal C_state_as_told hr (by omega) (by rfl) (pa_cons (pe_ix (k_ix (K := K) rfl) (pv 0) pe_int (fun _ _ => rfl)) (pa_cons (pe_ix (k_ix (K := K) rfl) (pv 1) pe_int (fun _ _ => rfl)) pa_nil))) pa_nil))))))))), fun ds h => ?_⟩
    · exact p2_len h
    · obtain ⟨d, e, rfl, k, hk, hd, rfl, hs, he⟩ := h
      show SvO _ [some k.data, some e, none, none] (.ret (toldF k.data e))
      rw [toldF_is]
      have W0 : EvD (tOp (rIx K) (tVar 0) (tC (.int 0))) [some k.data, some e, none, none] (.str k.word) := ev_word (ev_var rfl)
      have V : ∀ ρ (i : Nat) d, ρ[0]? = some (some k.data) → k.rest[i]? = some d → EvD (tOp (rIx K) (tVar 0) (tC (.int ((i + 1 : Nat) : Int)))) ρ d := fun ρ i d e1 e => ev_part (ev_var e1) ev_int e
      have R : ∀ (s : Kd) y, s ∈ k.subs → isSt s y = true → Sv y → pTold n s.data y := fun s y hs hy hv => ⟨s, Kd.sub_ok hk hs, by have := Kd.sub_dep hs; omega, rfl, hy, hv⟩
      refine sv_when (et_test (ev_op W0 (ev_tup (ea_cons ev_str (ea_two ev_str ev_str)) (by simp)) (rv_inTS ["count", "row", "table"] rfl))) (fun hb => sv_stop (sv_ret ?_)) fun hb => ?_
      · rw [has3] at hb
        cases k <;> first | exact ev_var rfl | cases hb
      rw [has3] at hb
      refine sv_when (et_test (ev_op W0 ev_str rv_eqS)) (fun hb => sv_stop (sv_ret ?_)) fun hb1 => ?_
      · rw [word_tops] at hb
        cases k with
        | tops a b =>
          cases e with
          | list es => exact EvN.toD (en_list (ev_var rfl) (.l _))
          | tuple es => exact EvN.toD (en_list (ev_var rfl) (.t _))
          | _ => simp [isSt, isLot, seqOf] at hs
        | _ => cases hb
      rw [word_tops] at hb1
      refine sv_when (et_test (ev_op W0 ev_str rv_eqS)) (fun hb => sv_stop (sv_ret ?_)) fun hb2 => ?_
      · rw [word_map] at hb
        cases k with
        | map a =>
          obtain ⟨es, hes⟩ : ∃ es, IsSeq e es := by
            cases e with
            | list es => exact ⟨es, .l _⟩
            | tuple es => exact ⟨es, .t _⟩
            | _ => simp [isSt, seqOf] at hs
          have hs2 : es.all (entOk fun y => isSt a y && !PyData.eqv (told a y) (least a)) = true := by
            have : seqOf e = some es := hes.of
            simp only [isSt, this, Bool.and_eq_true] at hs
            exact hs.1
          obtain ⟨prs, h1, h2⟩ := ents hs2
          subst h1
          have hl := he.len hes
          rw [List.length_map] at hl
          refine (EvN.toD (en_lc1 prs tup2 (fun p => .tuple [p.1, told a p.2]) (fun p => _) (is_either rfl hes) (by omega) (fun p _ => gt_two (by decide) (by decide)) fun p hp =>
            ev_tup (ea_two (ev_var rfl) (ev_callIs (ea_two (V _ 0 _ rfl rfl) (ev_var rfl)) ⟨_, _, rfl, R a p.2 (by simp [Kd.subs]) (by have := (h2 p hp).2; simp only [Bool.and_eq_true] at this; exact this.1) ((he.mem hes (List.mem_map_of_mem hp)).memT (by simp))⟩ (toldF_is a p.2))) (by simp))).is ?_
          show _ = PyData.list ((sq e).map (entBy (told a)))
          rw [hes.sq, List.map_map]; rfl
        | _ => cases hb
      rw [word_map] at hb2
      have V0 := fun i d => V [some k.data, some e, none, none] i d rfl
      refine sv_when (et_test (ev_op W0 ev_str rv_eqS)) (fun hb => sv_stop (sv_ret ?_)) fun hb3 => sv_ret ?_
      · rw [word_above] at hb
        cases k with
        | above a b =>
          have hp : isPair e = true := by
            cases e with
            | tuple es =>
              match es, hs with
              | [x, y], _ => rfl
              | [], hs => simp [isSt] at hs
              | [x], hs => cases x <;> simp [isSt] at hs
              | x :: _ :: _ :: _, hs => cases x <;> simp [isSt] at hs
            | _ => simp [isSt] at hs
          obtain ⟨x, y, rfl⟩ := pair_of hp
          obtain ⟨s, rfl⟩ : ∃ s, x = .str s := by cases x <;> first | exact ⟨_, rfl⟩ | simp [isSt] at hs
          have hy : Sv y := he.memT (by simp)
          have X0 : EvD (tOp (rIx K) (tVar 1) (tC (.int 0))) [some (Kd.above a b).data, some (.tuple [.str s, y]), none, none] (.str s) := ev_op (ev_var rfl) ev_int (rv_ixT0 rfl)
          have X1 : EvD (tOp (rIx K) (tVar 1) (tC (.int 1))) [some (Kd.above a b).data, some (.tuple [.str s, y]), none, none] y := ev_op (ev_var rfl) ev_int (rv_ixT1 rfl)
          have hs2 : (if s = "low" then isSt a y else if s = "high" then isSt b y else false) = true := hs
          show EvD _ _ (.tuple [.str s, if s = "low" then told a y else told b y])
          by_cases z : s = "low"
          · rw [if_pos z] at hs2 ⊢
            exact ev_tup (ea_two X0 (ev_callIs (ea_two (ev_ifT ((et_test (ev_op X0 ev_str rv_eqS)).is (decide_eq_true z)) (V0 0 _ rfl)) X1) ⟨_, _, rfl, R a y (by simp [Kd.subs]) hs2 hy⟩ (toldF_is a y))) (by simp)
          · rw [if_neg z] at hs2 ⊢
            have hs3 : isSt b y = true := by
              by_cases z2 : s = "high"
              · rwa [if_pos z2] at hs2
              · rw [if_neg z2] at hs2; cases hs2
            exact ev_tup (ea_two X0 (ev_callIs (ea_two (ev_ifF ((et_test (ev_op X0 ev_str rv_eqS)).is (decide_eq_false z)) (V0 1 _ rfl)) X1) ⟨_, _, rfl, R b y (by simp [Kd.subs]) hs3 hy⟩ (toldF_is b y))) (by simp)
        | _ => cases hb
      · rw [word_above] at hb3
        cases k with
        | two l a b =>
          have hp : isPair e = true := by
            cases e with
            | tuple es =>
              match es, hs with
              | [x, y], _ => rfl
              | [], hs => simp [isSt] at hs
              | [x], hs => simp [isSt] at hs
              | x :: _ :: _ :: _, hs => simp [isSt] at hs
            | _ => simp [isSt] at hs
          obtain ⟨x, y, rfl⟩ := pair_of hp
          simp only [isSt, Bool.and_eq_true] at hs
          exact ev_tup (ea_two (ev_callIs (ea_two (V0 0 _ rfl) (ev_op (ev_var rfl) ev_int (rv_ixT0 rfl))) ⟨_, _, rfl, R a x (by simp [Kd.subs]) hs.1 (he.memT (by simp))⟩ (toldF_is a x)) (ev_callIs (ea_two (V0 1 _ rfl) (ev_op (ev_var rfl) ev_int (rv_ixT1 rfl))) ⟨_, _, rfl, R b y (by simp [Kd.subs]) hs.2 (he.memT (by simp))⟩ (toldF_is b y))) (by simp)
        | above _ _ => cases hb3
        | tops _ _ => cases hb1
        | map _ => cases hb2
        | _ => cases hb
end
end Pm
namespace Pm
open PySem PySem.Spec PyProof.Rows L2
section
variable {P : Program} {w : World} {K : PySem.W.Frag} {mg : Str → Option Value} {base : Heap} {aS : Addr}

def isF (d e : PyData) : PyData := .bool (isSt (kindOf d) e)
theorem isF_is (k : Kd) (e : PyData) : isF k.data e = .bool (isSt k e) := by unfold isF; rw [kindOf_data]
def pIsv (n : Nat) (d e : PyData) : Prop := ∃ k : Kd, k.ok = true ∧ k.dep ≤ n ∧ d = k.data ∧ Sv e
abbrev spIsv (n : Nat) : Sp := spF (p2 (pIsv n)) (f2 isF)
def entP (k : Kd) (y : PyData) : Bool := isSt k y && !PyData.eqv (told k y) (least k)
def entF (d e : PyData) : PyData := .bool (entOk (entP (kindOf d)) e)
theorem entF_is (k : Kd) (e : PyData) : entF k.data e = .bool (entOk (entP k) e) := by unfold entF; rw [kindOf_data]
abbrev spEnt (n : Nat) : Sp := spF (p2 (pIsv n)) (f2 entF)
def mapF (d e : PyData) : PyData := .bool (isSt (.map (kindOf d)) e)
theorem mapF_is (k : Kd) (e : PyData) : mapF k.data e = .bool (isSt (.map k) e) := by unfold mapF; rw [kindOf_data]
abbrev spMap (n : Nat) : Sp := spF (p2 (pIsv n)) (f2 mapF)
def pLot (d e : PyData) : Prop := ∃ n ties, (n, ties) ∈ okTops ∧ d = (Kd.tops n ties).data ∧ Sv e
abbrev spLot : Sp := spF (p2 pLot) (f2 isF)
theorem cnt_int {p : PyData} (h : isCnt p = true) : ∃ m : Nat, p = nD m := by
  cases p with
  | int i =>
    have : 0 ≤ i := by simpa [isCnt] using h
    exact ⟨i.toNat, by simp [nD, Int.toNat_of_nonneg this]⟩
  | _ => cases h
theorem lt_nD (m n : Nat) : ltN n (nD m) = decide (m < n) := by simp [ltN, nD]
/-- counts below n, by their numbers -/
theorem cnts {n : Nat} : ∀ {ps : List PyData}, (ps.all fun p => isCnt p && ltN n p) = true → ∃ ns : List Nat, ps = ns.map nD ∧ ∀ x ∈ ns, x < n
  | [], _ => ⟨[], rfl, fun p m => nomatch m⟩
  | p :: r, h => by
    simp only [List.all_cons, Bool.and_eq_true] at h
    obtain ⟨ns, h1, h2⟩ := cnts (n := n) (ps := r) (by simpa using h.2)
    obtain ⟨m, rfl⟩ := cnt_int h.1.1
    refine ⟨m :: ns, by rw [h1]; rfl, fun x mx => ?_⟩
    rcases List.mem_cons.mp mx with z | z
    · subst z; have := h.1.2; rw [lt_nD] at this; exact of_decide_eq_true this
    · exact h2 x z
theorem adj_zip (es : List PyData) : adj es = (es.zip (es.drop 1)).map tup2 := by
  unfold adj pairs
  rw [← List.map_uncurry_zip_eq_zipWith]; rfl
theorem zip_mem {es : List PyData} {p : PyData × PyData} (h : p ∈ es.zip (es.drop 1)) : p.1 ∈ es ∧ p.2 ∈ es := ⟨(List.of_mem_zip h).1, List.mem_of_mem_drop (List.of_mem_zip h).2⟩
theorem zip_len (es : List PyData) : (es.zip (es.drop 1)).length ≤ es.length := by rw [List.length_zip]; omega
theorem is_adj {ρ : Rho} {d : PyData} {es : List PyData} {i : Nat} (h : ρ[i]? = some (some d)) (hs : IsSeq d es) : IsD (RZ.iZipA K (tCons (tVar i) (tCons (tSl (rSlE K) (tVar i) (tPart (tC (.int 1))) tNoPart) tNil))) ρ ((es.zip (es.drop 1)).map tup2) := by
  rw [← adj_zip]
  exact is_zip (ea_two (ev_var h) (ev_from1 (ev_var h) hs)) hs (like_seq hs _) rfl
theorem seq_dec (d : PyData) (hn : noDict d = true) : (∃ es, IsSeq d es) ∨ seqOf d = none := by
  cases d with
  | list es => exact .inl ⟨es, .l _⟩
  | tuple es => exact .inl ⟨es, .t _⟩
  | _ => exact .inr rfl
abbrev scLot : Scope := { kind := .function, names := [(".0", .local), ("point", .local), ("any", .globalImplicit), ("highs", .cell), ("value", .cell)], isGenerator := false, isCoroutine := false }
abbrev N_is_lot_of_tops : List Str := ["kind", "value", "point", "near", "far", "highs", "high"]
theorem sc_is_lot_of_tops : FnScope N_is_lot_of_tops ["kind", "value"] (defScope s_is_lot_of_tops) := ⟨rfl, rfl, rfl, by decide +kernel, rfl, by decide +kernel, by decide +kernel⟩
theorem ok_is_lot_of_tops  (T : Txt K mg w aS) (F : Stands K mg "is_lot_of_tops" s_is_lot_of_tops ["kind", "value"]) (C_is_list : Cal P w K mg base "is_list" 1 ["value"] (spIsList)) (C_is_count : Cal P w K mg base "is_count" 2 ["value"] (spCnt)) (C_highs_of_points : Cal P w K mg base "highs_of_points" 1 ["many", "ties"] (spHi))  : Cal P w K mg base "is_lot_of_tops" 3 ["kind", "value"] (spF (p2 pLot) (f2 isF)) := by
  have nd := sc_is_lot_of_tops.nd
  refine F.pure sc_is_lot_of_tops (fun ds h => ?_) fun f cdv A outer s H E hr => ⟨_, (pss_cons (ps_if (PW.pt (pw_or (pt_not (pt_val (pe_cal C_is_list hr (by omega) (by rfl) (pa_cons (pv 1) pa_nil)))) (pw_or1 (pt_not (pt_val (pe_callB (k_all (K := K) rfl rfl) (by rfl) T.b_all bt_all (pa_cons (pe_lc (own := [("point", 2)]) (by rfl) nd (k_pe (K := K) rfl (pv 1)) (blkOk_by (N := N_is_lot_of_tops) (sc := (defScope s_is_lot_of_tops)) (own := [("point", 2)]) (by decide +kernel)) (fun _ _ _ _ _ => (pg_name (i := 2) nd rfl (by first | exact Or.inl rfl | exact Or.inr rfl))) (fun _ _ _ _ _ => pts_nil) (fun _ _ _ _ _ => (pe_and (pe_cal C_is_count hr (by omega) (by rfl) (pa_cons (pv 2) pa_nil)) (pe_one (pe_cmpR op_lt (pv 2) (pe_ix (k_ix (K := K) rfl) (pv 0) pe_int (fun _ _ => rfl)) (nomark _)))))) pa_nil))))))) (pss_one (ps_ret pe_bl)) pss_nil)
        (pss_cons (ps_if (pt_not (pt_val (pe_callB (k_all (K := K) rfl rfl) (by rfl) T.b_all bt_all (pa_cons (pe_lc (own := [("near", 3), ("far", 4)]) (by rfl) nd (k_zip (K := K) rfl (by rfl) T.b_zip (pa_cons (pv 1) (pa_cons (pe_slice (k_sl (K := K) rfl) (pv 1) (po_some pe_int) po_none) pa_nil))) (blkOk_by (N := N_is_lot_of_tops) (sc := (defScope s_is_lot_of_tops)) (own := [("near", 3), ("far", 4)]) (by decide +kernel)) (fun _ _ _ _ _ => (k_gt (n := 2) (K := K) rfl rfl (pgs_cons (pg_name (i := 3) nd rfl (by first | exact Or.inl rfl | exact Or.inr rfl)) (pgs_cons (pg_name (i := 4) nd rfl (by first | exact Or.inl rfl | exact Or.inr rfl)) pgs_nil)))) (fun _ _ _ _ _ => pts_nil) (fun _ _ _ _ _ => (pe_cmpR op_lt (pv 3) (pv 4) (nomark _)))) pa_nil)))) (pss_one (ps_ret pe_bl)) pss_nil)
        (pss_cons (ps_set (i := 5) nd rfl (by first | exact Or.inl rfl | exact Or.inr rfl) (pe_cal C_highs_of_points hr (by omega) (by rfl) (pa_cons (pe_ix (k_ix (K := K) rfl) (pv 0) pe_int (fun _ _ => rfl)) (pa_cons (pe_ix (k_ix (K := K) rfl) (pv 0) pe_int (fun _ _ => rfl)) pa_nil))))
        (pss_one (ps_ret (pe_not (pe_callB (k_any (K := K) rfl rfl) (by rfl) T.b_any bt_any (pa_cons (pe_lc (own := [("point", 2)]) (by rfl) nd (k_pe (K := K) rfl (pv 1)) (blkOk_by (N := N_is_lot_of_tops) (sc := (defScope s_is_lot_of_tops)) (own := [("point", 2)]) (by decide +kernel)) (fun _ _ _ _ _ => (pg_name (i := 2) nd rfl (by first | exact Or.inl rfl | exact Or.inr rfl))) (fun _ _ _ _ _ => pts_nil) (fun _ _ _ _ _ => (pe_callB (k_any (K := K) rfl rfl) (by rfl) T.b_any bt_any (pa_cons (pe_lc (own := [("high", 6)]) (by rfl) nd (k_pl (K := K) rfl (pe_ix (k_ix (K := K) rfl) (pv 5) (pv 2) (fun _ _ => rfl))) (blkOk_by (N := N_is_lot_of_tops) (sc := scLot) (own := [("high", 6)]) (by decide +kernel)) (fun _ _ _ _ _ => (pg_name (i := 6) nd rfl (by first | exact Or.inl rfl | exact Or.inr rfl))) (fun _ _ _ _ _ => pts_nil) (fun _ _ _ _ _ => (pe_cmpR (k_in (K := K) rfl) (pv 6) (pv 1) (by rfl)))) pa_nil)))) pa_nil)))))))), fun ds h => ?_⟩
  · exact p2_len h
  · obtain ⟨d, e, rfl, n, ties, ht, rfl, he⟩ := h
    show SvO _ _ (.ret (isF _ e))
    rw [isF_is]
    have V : ∀ ρ (i : Nat) d, ρ[0]? = some (some (Kd.tops n ties).data) → (Kd.tops n ties).rest[i]? = some d → EvD (tOp (rIx K) (tVar 0) (tC (.int ((i + 1 : Nat) : Int)))) ρ d := fun ρ i d e1 e => ev_part (ev_var e1) ev_int e
    rcases seq_dec e he.noDict with ⟨es, hes⟩ | hno
    · have hl := he.len hes
      have hse : seqOf e = some es := hes.of
      have hst : isSt (Kd.tops n ties) e = ((es.all fun p => isCnt p && ltN n p) && ((adj es).all ltI && freeB ties (es.map natOf))) := by
        show isLot n ties e = _
        unfold isLot; rw [hse]
      rw [hst]
      refine sv_when (b := !(es.all fun p => isCnt p && ltN n p)) (et_orF (et_notT (et_B (ev_callIs (ea_one (ev_var rfl)) ⟨_, rfl, he.noDict⟩ (by show PyData.bool (seqOf e).isSome = .bool true; rw [hse]; rfl)))) (et_not ((et_B (ev_cb (ea_one (EvN.toD (en_lc1 es (fun x => x) (fun p => .bool (isCnt p && ltN n p)) (fun p => _) (is_either rfl hes).id (by omega) (fun _ _ => gt_name (List.mem_singleton.mpr rfl)) fun p hp => ?_))) (rc_all (es.map fun p => isCnt p && ltN n p) (by rw [List.map_map]; rfl)))).is (by rw [all_map_id])))) (fun hb => sv_stop (sv_ret ?_)) fun hb => ?_
      · have hps := he.mem hes hp
        refine ev_and (ev_callIs (d := .bool (isCnt p)) (ea_one (ev_var rfl)) ⟨_, rfl, hps.noDict⟩ rfl) fun hc => ?_
        obtain ⟨m, rfl⟩ := cnt_int hc
        exact ev_op (ev_var rfl) (V _ 0 _ rfl rfl) rv_B
      · have hb : (es.all fun p => isCnt p && ltN n p) = false := by simpa using hb
        rw [hb]
        exact ev_bl
      · have hb : (es.all fun p => isCnt p && ltN n p) = true := by simpa using hb
        rw [hb]
        obtain ⟨ns, rfl, hlt⟩ := cnts hb
        rw [Bool.true_and, nat_ns]
        refine sv_when (b := !(adj (ns.map nD)).all ltI) (et_not ((et_B (ev_cb (ea_one (EvN.toD (en_lc1 ((ns.map nD).zip ((ns.map nD).drop 1)) tup2 (fun p => .bool (ltI (tup2 p))) (fun p => _) (is_adj rfl hes) (by have := zip_len (ns.map nD); omega) (fun p _ => gt_two (by decide) (by decide)) fun p hp => ?_))) (rc_all (((ns.map nD).zip ((ns.map nD).drop 1)).map fun p => ltI (tup2 p)) (by rw [List.map_map]; rfl)))).is (by rw [all_map_id, adj_zip, List.all_map]; rfl))) (fun hb => sv_stop (sv_ret ?_)) fun hb2 => ?_
        · obtain ⟨m1, m2⟩ := zip_mem hp
          obtain ⟨a, _, e1⟩ := List.mem_map.mp m1
          obtain ⟨b, _, e2⟩ := List.mem_map.mp m2
          obtain ⟨x, y⟩ := p
          have e1 : nD a = x := e1
          have e2 : nD b = y := e2
          subst e1 e2
          exact ev_op (ev_var rfl) (ev_var rfl) rv_B
        · have hb2 : (adj (ns.map nD)).all ltI = false := by simpa using hb
          rw [hb2]
          exact ev_bl
        · have hb2 : (adj (ns.map nD)).all ltI = true := by simpa using hb2
          rw [hb2, Bool.true_and]
          refine sv_asg (ev_callIs (ea_two (V _ 0 _ rfl rfl) (V _ 1 _ rfl rfl)) ⟨_, _, rfl, n, ties, ht, rfl, .l _⟩ (hiF_is (.l _))) ?_
          refine sv_ret ((ev_not (ev_cb (ea_one (EvN.toD (en_lc1 ns nD (fun p => .bool ((hiAt ties p).any fun h => ns.contains h)) (fun p => _) (is_either rfl hes) (by rw [List.length_map] at hl; omega) (fun _ _ => gt_name (List.mem_singleton.mpr rfl)) fun p hp => ?_))) (rc_any (ns.map fun p => (hiAt ties p).any fun h => ns.contains h) (by rw [List.map_map]; rfl)))).is ?_)
          · have hsm : (hiAt ties p).length ≤ 30000 := by
              have h3 := (hi_ok _ ht p (List.mem_range.mpr (hlt p hp))).2.2.1
              have h4 : (hiAt ties p).length = (lhAt ties p).length := by rw [← h3]; exact (srt_perm _).length_eq
              have : ∀ nt ∈ okTops, ∀ p ∈ List.range nt.1, (lhAt nt.2 p).length ≤ 30000 := by decide +kernel
              rw [h4]; exact this _ ht p (List.mem_range.mpr (hlt p hp))
            refine (ev_cb (ea_one (EvN.toD (en_lc1 (hiAt ties p) nD (fun h => .bool (ns.contains h)) (fun h => _) (is_list (ev_op (ev_var rfl) (ev_var rfl) (rv_ixL (hiOf_get (hlt p hp))))) (by omega) (fun _ _ => gt_name (List.mem_singleton.mpr rfl)) fun h hh => ?_))) (rc_any ((hiAt ties p).map fun h => ns.contains h) (by rw [List.map_map]; rfl))).is (by rw [any_map_id])
            exact ev_op (ev_var rfl) (ev_var rfl) (rv_inN ns hes)
          · rw [any_map_id]; rfl
    · have hst : isSt (Kd.tops n ties) e = false := by
        show isLot n ties e = _
        unfold isLot; rw [hno]
      rw [hst]
      exact sv_whenT (et_orT (et_notF (et_B (ev_callIs (ea_one (ev_var rfl)) ⟨_, rfl, he.noDict⟩ (by show PyData.bool (seqOf e).isSome = .bool false; rw [hno]; rfl))))) (sv_ret ev_bl)
end
end Pm
namespace Pm
open PySem PySem.Spec PyProof.Rows L2
section
variable {P : Program} {w : World} {K : PySem.W.Frag} {mg : Str → Option Value} {base : Heap} {aS : Addr}

theorem et_pair3 {te : TE} {tt : TT} {ρ : Rho} {d : PyData} (h : EvD te ρ d) (hn : noDict d = true) (hp : isPair d = false) : EvT (tOr (tNot (tB (tCB (rIsi K) (tCons te (tCons (tC (.ty "tuple")) tNil))))) (tOr (tTest (tOp rNe (tCB (rLenA K) (tCons te tNil)) (tC (.int 2)))) tt)) ρ true := by
  cases d with
  | tuple es =>
    refine et_orF (et_notT (et_B (ev_isi h (kit_tup rfl)))) (et_orT ((et_test (ev_op (ev_cb (ea_one h) rc_lenT) ev_int rv_neI)).is ?_))
    match es, hp with
    | [], _ => rfl
    | [_], _ => rfl
    | _ :: _ :: _ :: r, _ =>
      show (!decide (((r.length + 1 + 1 + 1 : Nat) : Int) = 2)) = true
      rw [decide_eq_false (by omega)]; rfl
  | dict _ => cases hn
  | _ => exact et_orT (et_notF (et_B (ev_isi h (kit_tup rfl))))
theorem notPair_ent {f : PyData → Bool} {d : PyData} (h : isPair d = false) : entOk f d = false := by
  cases d with
  | tuple es =>
    match es, h with
    | [], _ => rfl
    | [_], _ => rfl
    | _ :: _ :: _ :: _, _ => rfl
  | _ => rfl
theorem told_shaped {k : Kd} {y : PyData} (hy : Sv y) (hs : isSt k y = true) : SeqAt.shaped (told k y) = true := ((told_sm k hy hs).sm hy).shaped (by decide)
theorem least_shaped {k : Kd} (h : k.dep ≤ 4) : SeqAt.shaped (least k) = true := (least_sm h).shaped (by decide)
def pIsv4 (n : Nat) (d e : PyData) : Prop := n ≤ 4 ∧ pIsv n d e
abbrev N_is_entry_of : List Str := ["kind", "value"]
theorem sc_is_entry_of : FnScope N_is_entry_of ["kind", "value"] (defScope s_is_entry_of) := ⟨rfl, rfl, rfl, by decide +kernel, rfl, by decide +kernel, by decide +kernel⟩
theorem ok_is_entry_of (n : Nat) (n4 : n ≤ 4) (T : Txt K mg w aS) (F : Stands K mg "is_entry_of" s_is_entry_of ["kind", "value"]) (C_is_name_word : Cal P w K mg base "is_name_word" 1 ["value"] (spName)) (C_is_state_value : Cal P w K mg base "is_state_value" (3 * n + 10) ["kind", "value"] (spIsv n)) (C_state_as_told : Cal P w K mg base "state_as_told" (n + 1) ["kind", "value"] (spToldS n)) (C_least_by_kind : Cal P w K mg base "least_by_kind" (n + 1) ["kind"] (spLeast n))  : Cal P w K mg base "is_entry_of" (3 * n + 11) ["kind", "value"] (spF (p2 (pIsv n)) (f2 entF)) := by
  have nd := sc_is_entry_of.nd
  refine F.pure sc_is_entry_of (fun ds h => ?_) fun f cdv A outer s H E hr => ⟨_, (pss_cons (ps_if (PW.pt (pw_or (pt_not (pt_val (pe_callB (k_isi (K := K) rfl) (by rfl) T.b_isinstance bt_isinstance (pa_cons (pv 1) (pa_cons (pe_bltn (v := .ty "tuple") (by rfl) T.b_tuple bt_tuple rfl) pa_nil))))) (pw_or (pt_cmpR op_ne (pe_callB (k_len (K := K) rfl) (by rfl) T.b_len bt_len (pa_cons (pv 1) pa_nil)) pe_int (nomark _)) (pw_or1 (pt_not (pt_val (pe_cal C_is_name_word hr (by omega) (by rfl) (pa_cons (pe_ix (k_ix (K := K) rfl) (pv 1) pe_int (fun _ _ => rfl)) pa_nil)))))))) (pss_one (ps_ret pe_bl)) pss_nil)
        (pss_one (ps_ret (pe_and (pe_cal C_is_state_value hr (by omega) (by rfl) (pa_cons (pv 0) (pa_cons (pe_ix (k_ix (K := K) rfl) (pv 1) pe_int (fun _ _ => rfl)) pa_nil))) (pe_one (pe_cmpR (k_neD (K := K) rfl hr.units) (pe_cal C_state_as_told hr (by omega) (by rfl) (pa_cons (pv 0) (pa_cons (pe_ix (k_ix (K := K) rfl) (pv 1) pe_int (fun _ _ => rfl)) pa_nil))) (pe_cal C_least_by_kind hr (by omega) (by rfl) (pa_cons (pv 0) pa_nil)) (nomark _))))))), fun ds h => ?_⟩
  · exact p2_len h
  · obtain ⟨d, e, rfl, k, hk, hd, rfl, he⟩ := h
    show SvO _ _ (.ret (entF k.data e))
    rw [entF_is]
    cases hp : isPair e with
    | false =>
      rw [notPair_ent hp]
      exact sv_whenT (et_pair3 (ev_var rfl) he.noDict hp) (sv_ret ev_bl)
    | true =>
      obtain ⟨x, y, rfl⟩ := pair_of hp
      have hx : Sv x := he.memT (by simp)
      have hy : Sv y := he.memT (by simp)
      have X0 : EvD (tOp (rIx K) (tVar 1) (tC (.int 0))) [some k.data, some (.tuple [x, y])] x := ev_op (ev_var rfl) ev_int (rv_ixT0 rfl)
      have X1 : EvD (tOp (rIx K) (tVar 1) (tC (.int 1))) [some k.data, some (.tuple [x, y])] y := ev_op (ev_var rfl) ev_int (rv_ixT1 rfl)
      show SvO _ _ (.ret (.bool (isName x && entP k y)))
      refine sv_when (et_orF (et_notT (et_B (ev_isi (ev_var rfl) (kit_tup rfl)))) (et_orF ((et_test (ev_op (ev_cb (ea_one (ev_var rfl)) rc_lenT) ev_int rv_neI)).is rfl) (et_not (et_B (ev_callIs (d := .bool (isName x)) (ea_one X0) ⟨_, rfl, hx.short⟩ rfl))))) (fun hb => sv_stop (sv_ret ?_)) fun hb => sv_ret ?_
      · have hb : isName x = false := by simpa using hb
        rw [hb]
        exact ev_bl
      · have hb : isName x = true := by simpa using hb
        rw [hb, Bool.true_and]
        exact ev_and (ev_callIs (ea_two (ev_var rfl) X1) ⟨_, _, rfl, k, hk, hd, rfl, hy⟩ (isF_is k y)) fun hs => ev_op (ev_callIs (ea_two (ev_var rfl) X1) ⟨_, _, rfl, k, hk, hd, rfl, hs, hy⟩ (toldF_is k y)) (ev_callIs (ea_one (ev_var rfl)) ⟨_, rfl, k, hk, hd, rfl⟩ (leastF_is k)) (rv_neD (told_shaped hy hs) (least_shaped (by omega)))
abbrev N_is_map_state : List Str := ["kind", "value", "entry", "near", "far"]
theorem sc_is_map_state : FnScope N_is_map_state ["kind", "value"] (defScope s_is_map_state) := ⟨rfl, rfl, rfl, by decide +kernel, rfl, by decide +kernel, by decide +kernel⟩
theorem ok_is_map_state (n : Nat) (T : Txt K mg w aS) (F : Stands K mg "is_map_state" s_is_map_state ["kind", "value"]) (C_is_list : Cal P w K mg base "is_list" 1 ["value"] (spIsList)) (C_is_entry_of : Cal P w K mg base "is_entry_of" (3 * n + 11) ["kind", "value"] (spEnt n))  : Cal P w K mg base "is_map_state" (3 * n + 12) ["kind", "value"] (spF (p2 (pIsv n)) (f2 mapF)) := by
  have nd := sc_is_map_state.nd
  refine F.pure sc_is_map_state (fun ds h => ?_) fun f cdv A outer s H E hr => ⟨_, (pss_cons (ps_if (PW.pt (pw_or (pt_not (pt_val (pe_cal C_is_list hr (by omega) (by rfl) (pa_cons (pv 1) pa_nil)))) (pw_or1 (pt_not (pt_val (pe_callB (k_all (K := K) rfl rfl) (by rfl) T.b_all bt_all (pa_cons (pe_lc (own := [("entry", 2)]) (by rfl) nd (k_pe (K := K) rfl (pv 1)) (blkOk_by (N := N_is_map_state) (sc := (defScope s_is_map_state)) (own := [("entry", 2)]) (by decide +kernel)) (fun _ _ _ _ _ => (pg_name (i := 2) nd rfl (by first | exact Or.inl rfl | exact Or.inr rfl))) (fun _ _ _ _ _ => pts_nil) (fun _ _ _ _ _ => (pe_cal C_is_entry_of hr (by omega) (by rfl) (pa_cons (pv 0) (pa_cons (pv 2) pa_nil))))) pa_nil))))))) (pss_one (ps_ret pe_bl)) pss_nil)
        (pss_one (ps_ret (pe_callB (k_all (K := K) rfl rfl) (by rfl) T.b_all bt_all (pa_cons (pe_lc (own := [("near", 3), ("far", 4)]) (by rfl) nd (k_zip (K := K) rfl (by rfl) T.b_zip (pa_cons (pv 1) (pa_cons (pe_slice (k_sl (K := K) rfl) (pv 1) (po_some pe_int) po_none) pa_nil))) (blkOk_by (N := N_is_map_state) (sc := (defScope s_is_map_state)) (own := [("near", 3), ("far", 4)]) (by decide +kernel)) (fun _ _ _ _ _ => (k_gt (n := 2) (K := K) rfl rfl (pgs_cons (pg_name (i := 3) nd rfl (by first | exact Or.inl rfl | exact Or.inr rfl)) (pgs_cons (pg_name (i := 4) nd rfl (by first | exact Or.inl rfl | exact Or.inr rfl)) pgs_nil)))) (fun _ _ _ _ _ => pts_nil) (fun _ _ _ _ _ => (pe_cmpR op_lt_str (pe_ix (k_ix (K := K) rfl) (pv 3) pe_int (fun _ _ => rfl)) (pe_ix (k_ix (K := K) rfl) (pv 4) pe_int (fun _ _ => rfl)) (nomark _)))) pa_nil))))), fun ds h => ?_⟩
  · exact p2_len h
  · obtain ⟨d, e, rfl, k, hk, hd, rfl, he⟩ := h
    show SvO _ _ (.ret (mapF k.data e))
    rw [mapF_is]
    rcases seq_dec e he.noDict with ⟨es, hes⟩ | hno
    · have hl := he.len hes
      have hse : seqOf e = some es := hes.of
      have hst : isSt (.map k) e = ((es.all (entOk (entP k))) && (adj es).all ltS) := by
        simp only [isSt, hse]; rfl
      rw [hst]
      refine sv_when (b := !(es.all (entOk (entP k)))) (et_orF (et_notT (et_B (ev_callIs (ea_one (ev_var rfl)) ⟨_, rfl, he.noDict⟩ (by show PyData.bool (seqOf e).isSome = .bool true; rw [hse]; rfl)))) (et_not ((et_B (ev_cb (ea_one (EvN.toD (en_lc1 es (fun x => x) (fun p => .bool (entOk (entP k) p)) (fun p => _) (is_either rfl hes).id (by omega) (fun _ _ => gt_name (List.mem_singleton.mpr rfl)) fun p hp => ?_))) (rc_all (es.map (entOk (entP k))) (by rw [List.map_map]; rfl)))).is (by rw [all_map_id])))) (fun hb => sv_stop (sv_ret ?_)) fun hb => sv_ret ?_
      · exact ev_callIs (ea_two (ev_var rfl) (ev_var rfl)) ⟨_, _, rfl, k, hk, hd, rfl, he.mem hes hp⟩ (entF_is k p)
      · have hb : (es.all (entOk (entP k))) = false := by simpa using hb
        rw [hb]
        exact ev_bl
      · have hb : (es.all (entOk (entP k))) = true := by simpa using hb
        rw [hb, Bool.true_and]
        obtain ⟨prs, rfl, hprs⟩ := ents hb
        refine (ev_cb (ea_one (EvN.toD (en_lc1 ((prs.map tup2).zip ((prs.map tup2).drop 1)) tup2 (fun p => .bool (ltS (tup2 p))) (fun p => _) (is_adj rfl hes) (by have := zip_len (prs.map tup2); omega) (fun p _ => gt_two (by decide) (by decide)) fun p hp => ?_))) (rc_all (((prs.map tup2).zip ((prs.map tup2).drop 1)).map fun p => ltS (tup2 p)) (by rw [List.map_map]; rfl))).is (by rw [all_map_id, adj_zip, List.all_map]; rfl)
        obtain ⟨m1, m2⟩ := zip_mem hp
        obtain ⟨a, ma, e1⟩ := List.mem_map.mp m1
        obtain ⟨b, mb, e2⟩ := List.mem_map.mp m2
        obtain ⟨x, y⟩ := p
        obtain ⟨a1, a2⟩ := a
        obtain ⟨b1, b2⟩ := b
        have e1 : PyData.tuple [a1, a2] = x := e1
        have e2 : PyData.tuple [b1, b2] = y := e2
        subst e1 e2
        obtain ⟨s, rfl⟩ : ∃ s, a1 = .str s := by
          have := (hprs _ ma).1
          cases a1 <;> first | exact ⟨_, rfl⟩ | cases this
        obtain ⟨z, rfl⟩ : ∃ s, b1 = .str s := by
          have := (hprs _ mb).1
          cases b1 <;> first | exact ⟨_, rfl⟩ | cases this
        exact ev_op (ev_op (ev_var rfl) ev_int (rv_ixT0 rfl)) (ev_op (ev_var rfl) ev_int (rv_ixT0 rfl)) rv_ltS
    · have hst : isSt (.map k) e = false := by simp only [isSt, hno]
      rw [hst]
      exact sv_whenT (et_orT (et_notF (et_B (ev_callIs (ea_one (ev_var rfl)) ⟨_, rfl, he.noDict⟩ (by show PyData.bool (seqOf e).isSome = .bool false; rw [hno]; rfl))))) (sv_ret ev_bl)
abbrev N_is_state_value : List Str := ["kind", "value"]
theorem sc_is_state_value : FnScope N_is_state_value ["kind", "value"] (defScope s_is_state_value) := ⟨rfl, rfl, rfl, by decide +kernel, rfl, by decide +kernel, by decide +kernel⟩
theorem notPair_st {k : Kd} {d : PyData} (h : isPair d = false) (hk : (match k with | .two _ _ _ => true | .above _ _ => true | _ => false) = true) : isSt k d = false := by
  cases k with
  | two l a b =>
    cases d with
    | tuple es =>
      match es, h with
      | [], _ => rfl
      | [_], _ => rfl
      | _ :: _ :: _ :: _, _ => rfl
    | _ => rfl
  | above a b =>
    cases d with
    | tuple es =>
      match es, h with
      | [], _ => rfl
      | [x], _ => cases x <;> rfl
      | x :: _ :: _ :: _, _ => cases x <;> rfl
    | _ => rfl
  | _ => cases hk
theorem ok_is_state_value (T : Txt K mg w aS) (F : Stands K mg "is_state_value" s_is_state_value ["kind", "value"]) (Fe : Stands K mg "is_entry_of" s_is_entry_of ["kind", "value"]) (Fm : Stands K mg "is_map_state" s_is_map_state ["kind", "value"])
    (C_is_list : Cal P w K mg base "is_list" 1 ["value"] (spIsList)) (C_is_name_word : Cal P w K mg base "is_name_word" 1 ["value"] (spName)) (C_is_count : Cal P w K mg base "is_count" 2 ["value"] (spCnt)) (C_is_lot_of_tops : Cal P w K mg base "is_lot_of_tops" 3 ["kind", "value"] (spLot))
    (Ct : ∀ n, Cal P w K mg base "state_as_told" (n + 1) ["kind", "value"] (spToldS n)) (Cl : ∀ n, Cal P w K mg base "least_by_kind" (n + 1) ["kind"] (spLeast n)) : ∀ n, n ≤ 4 → Cal P w K mg base "is_state_value" (3 * n + 10) ["kind", "value"] (spIsv n)
  | 0, _ => (F.noneD sc_is_state_value fun ds ⟨d, e, _, k, _, hd, _⟩ => by have := k.dep_pos; omega).up (by omega)
  | n + 1, n4 => by
    have C_is_state_value := ok_is_state_value T F Fe Fm C_is_list C_is_name_word C_is_count C_is_lot_of_tops Ct Cl n (by omega)
    have C_is_entry_of := ok_is_entry_of n (by omega) T Fe C_is_name_word C_is_state_value (Ct n) (Cl n)
    have C_is_map_state := ok_is_map_state n T Fm C_is_list C_is_entry_of
    have nd := sc_is_state_value.nd
    refine Cal.up (j := 3 * n + 13) ?_ (by omega)
    refine F.pure sc_is_state_value (fun ds h => ?_) fun f cdv A outer s H E hr => ⟨_, (pss_cons (ps_if (pt_cmpR op_eq (pe_ix (k_ix (K := K) rfl) (pv 0) pe_int (fun _ _ => rfl)) pe_str (nomark _)) (pss_one (ps_ret (pe_cal C_is_count hr (by omega) (by rfl) (pa_cons (pv 1) pa_nil)))) pss_nil)
        (pss_cons (ps_if (pt_cmpR op_eq (pe_ix (k_ix (K := K) rfl) (pv 0) pe_int (fun _ _ => rfl)) pe_str (nomark _)) (pss_one (ps_ret (pe_and (pe_cal C_is_count hr (by omega) (by rfl) (pa_cons (pv 1) pa_nil)) (pe_one (pe_cmpR op_lt (pv 1) (pe_ix (k_ix (K := K) rfl) (pv 0) pe_int (fun _ _ => rfl)) (nomark _)))))) pss_nil)
        (pss_cons (ps_if (pt_cmpR op_eq (pe_ix (k_ix (K := K) rfl) (pv 0) pe_int (fun _ _ => rfl)) pe_str (nomark _)) (pss_one (ps_ret (pe_and (pe_cal C_is_count hr (by omega) (by rfl) (pa_cons (pv 1) pa_nil)) (pe_one (pe_cmpR op_lt (pv 1) (pe_callB (k_len (K := K) rfl) (by rfl) T.b_len bt_len (pa_cons (pe_ix (k_ix (K := K) rfl) (pv 0) pe_int (fun _ _ => rfl)) pa_nil)) (nomark _)))))) pss_nil)
        (pss_cons (ps_if (pt_cmpR op_eq (pe_ix (k_ix (K := K) rfl) (pv 0) pe_int (fun _ _ => rfl)) pe_str (nomark _)) (pss_one (ps_ret (pe_cal C_is_lot_of_tops hr (by omega) (by rfl) (pa_cons (pv 0) (pa_cons (pv 1) pa_nil))))) pss_nil)
        (pss_cons (ps_if (pt_cmpR op_eq (pe_ix (k_ix (K := K) rfl) (pv 0) pe_int (fun _ _ => rfl)) pe_str (nomark _)) (pss_one (ps_ret (pe_cal C_is_map_state hr (by omega) (by rfl) (pa_cons (pe_ix (k_ix (K := K) rfl) (pv 0) pe_int (fun _ _ => rfl)) (pa_cons (pv 1) pa_nil))))) pss_nil)
        (pss_cons (ps_if (PW.pt (pw_or (pt_not (pt_val (pe_callB (k_isi (K := K) rfl) (by rfl) T.b_isinstance bt_isinstance (pa_cons (pv 1) (pa_cons (pe_bltn (v := .ty "tuple") (by rfl) T.b_tuple bt_tuple rfl) pa_nil))))) (pw_or1 (pt_cmpR op_ne (pe_callB (k_len (K := K) rfl) (by rfl) T.b_len bt_len (pa_cons (pv 1) pa_nil)) pe_int (nomark _))))) (pss_one (ps_ret pe_bl)) pss_nil)
        (pss_cons (ps_if (pt_cmpR op_ne (pe_ix (k_ix (K := K) rfl) (pv 0) pe_int (fun _ _ => rfl)) pe_str (nomark _)) (pss_one (ps_ret (pe_and (pe_cal C_is_state_value hr (by omega) (by rfl) (pa_cons (pe_ix (k_ix (K := K) rfl) (pv 0) pe_int (fun _ _ => rfl)) (pa_cons (pe_ix (k_ix (K := K) rfl) (pv 1) pe_int (fun _ _ => rfl)) pa_nil))) (pe_one (pe_cal C_is_state_value hr (by omega) (by rfl) (pa_cons (pe_ix (k_ix (K := K) rfl) (pv 0) pe_int (fun _ _ => rfl)) (pa_cons (pe_ix (k_ix (K := K) rfl) (pv 1) pe_int (fun _ _ => rfl)) pa_nil))))))) pss_nil)
        (pss_cons (ps_if (PW.pt (pw_or (pt_not (pt_val (pe_callB (k_isi (K := K) rfl) (by rfl) T.b_isinstance bt_isinstance (pa_cons (pe_ix (k_ix (K := K) rfl) (pv 1) pe_int (fun _ _ => rfl)) (pa_cons (pe_bltn (v := .ty "str") (by rfl) T.b_str bt_str rfl) pa_nil))))) (pw_or1 (pt_cmpR (k_nin (K := K) rfl) (pe_ix (k_ix (K := K) rfl) (pv 1) pe_int (fun _ _ => rfl)) (pe_tup (pa_cons pe_str (pa_cons pe_str pa_nil))) (by rfl))))) (pss_one (ps_ret pe_bl)) pss_nil)
        (pss_one (ps_ret (pe_cal C_is_state_value hr (by omega) (by rfl) (pa_cons (pe_ifExp (pt_cmpR op_eq (pe_ix (k_ix (K := K) rfl) (pv 1) pe_int (fun _ _ => rfl)) pe_str (nomark _)) (pe_ix (k_ix (K := K) rfl) (pv 0) pe_int (fun _ _ => rfl)) (pe_ix (k_ix (K := K) rfl) (pv 0) pe_int (fun _ _ => rfl))) (pa_cons (pe_ix (k_ix (K := K) rfl) (pv 1) pe_int (fun _ _ => rfl)) pa_nil))))))))))))), fun ds h => ?_⟩
    · exact p2_len h
    · obtain ⟨d, e, rfl, k, hk, hd, rfl, he⟩ := h
      show SvO _ [some k.data, some e] (.ret (isF k.data e))
      rw [isF_is]
      have W0 : EvD (tOp (rIx K) (tVar 0) (tC (.int 0))) [some k.data, some e] (.str k.word) := ev_word (ev_var rfl)
      have Wd : ∀ (z : Str) b, decide (k.word = z) = b → EvT (tTest (tOp rEq (tOp (rIx K) (tVar 0) (tC (.int 0))) (tC (.str z)))) [some k.data, some e] b := fun z b e => (et_test (ev_op W0 ev_str rv_eqS)).is e
      have Wn : ∀ (z : Str) b, (!decide (k.word = z)) = b → EvT (tTest (tOp rNe (tOp (rIx K) (tVar 0) (tC (.int 0))) (tC (.str z)))) [some k.data, some e] b := fun z b e => (et_test (ev_op W0 ev_str rv_neS)).is e
      have V : ∀ (i : Nat) d, k.rest[i]? = some d → EvD (tOp (rIx K) (tVar 0) (tC (.int ((i + 1 : Nat) : Int)))) [some k.data, some e] d := fun i d e => ev_part (ev_var rfl) ev_int e
      have R : ∀ (s : Kd) y, s ∈ k.subs → Sv y → pIsv n s.data y := fun s y hs hv => ⟨s, Kd.sub_ok hk hs, by have := Kd.sub_dep hs; omega, rfl, hv⟩
      have Cn : EvD (tCall spCnt [] E0 (tCons (tVar 1) tNil)) [some k.data, some e] (.bool (isCnt e)) := ev_callIs (ea_one (ev_var rfl)) ⟨_, rfl, he.noDict⟩ rfl
      cases k with
      | count => exact sv_whenT (Wd _ _ rfl) (sv_ret Cn)
      | row m =>
        refine sv_whenF (Wd _ _ rfl) (sv_whenT (Wd _ _ rfl) (sv_ret (ev_and Cn fun hc => ?_)))
        obtain ⟨x, rfl⟩ := cnt_int hc
        exact ev_op (ev_var rfl) (V 0 _ rfl) rv_B
      | tab rows =>
        refine sv_whenF (Wd _ _ rfl) (sv_whenF (Wd _ _ rfl) (sv_whenT (Wd _ _ rfl) (sv_ret (ev_and Cn fun hc => ?_))))
        obtain ⟨x, rfl⟩ := cnt_int hc
        exact (ev_op (ev_var rfl) (ev_cb (ea_one (V 0 _ rfl)) rc_lenL) rv_B).is (by rw [List.length_map]; rfl)
      | tops m ties =>
        have ht : (m, ties) ∈ okTops := by simpa [Kd.ok] using hk
        exact sv_whenF (Wd _ _ rfl) (sv_whenF (Wd _ _ rfl) (sv_whenF (Wd _ _ rfl) (sv_whenT (Wd _ _ rfl) (sv_ret (ev_callIs (ea_two (ev_var rfl) (ev_var rfl)) ⟨_, _, rfl, m, ties, ht, rfl, he⟩ (isF_is _ _))))))
      | map a => exact sv_whenF (Wd _ _ rfl) (sv_whenF (Wd _ _ rfl) (sv_whenF (Wd _ _ rfl) (sv_whenF (Wd _ _ rfl) (sv_whenT (Wd _ _ rfl) (sv_ret (ev_callIs (ea_two (V 0 _ rfl) (ev_var rfl)) ⟨_, _, rfl, R a e (by simp [Kd.subs]) he⟩ (mapF_is _ _)))))))
      | two l a b =>
        have hw : ∀ z : Str, z ≠ "pair" → z ≠ "later" → decide ((Kd.two l a b).word = z) = false := fun z h1 h2 => decide_eq_false (by cases l; exact fun e => h1 e.symm; exact fun e => h2 e.symm)
        refine sv_whenF (Wd _ _ (hw _ (by decide +kernel) (by decide +kernel))) (sv_whenF (Wd _ _ (hw _ (by decide +kernel) (by decide +kernel))) (sv_whenF (Wd _ _ (hw _ (by decide +kernel) (by decide +kernel))) (sv_whenF (Wd _ _ (hw _ (by decide +kernel) (by decide +kernel))) (sv_whenF (Wd _ _ (hw _ (by decide +kernel) (by decide +kernel))) ?_))))
        cases hp : isPair e with
        | false =>
          rw [notPair_st hp rfl]
          exact sv_whenT ((et_pair (ev_var rfl) he.noDict).is (by rw [hp]; rfl)) (sv_ret ev_bl)
        | true =>
          obtain ⟨x, y, rfl⟩ := pair_of hp
          refine sv_whenF ((et_pair (ev_var rfl) he.noDict).is (by rw [hp]; rfl)) ?_
          refine sv_whenT (Wn _ _ (by rw [hw _ (by decide +kernel) (by decide +kernel)]; rfl)) (sv_ret ?_)
          exact ev_and (ev_callIs (ea_two (V 0 _ rfl) (ev_op (ev_var rfl) ev_int (rv_ixT0 rfl))) ⟨_, _, rfl, R a x (by simp [Kd.subs]) (he.memT (by simp))⟩ (isF_is a x)) fun _ => ev_callIs (ea_two (V 1 _ rfl) (ev_op (ev_var rfl) ev_int (rv_ixT1 rfl))) ⟨_, _, rfl, R b y (by simp [Kd.subs]) (he.memT (by simp))⟩ (isF_is b y)
      | above a b =>
        refine sv_whenF (Wd _ _ rfl) (sv_whenF (Wd _ _ rfl) (sv_whenF (Wd _ _ rfl) (sv_whenF (Wd _ _ rfl) (sv_whenF (Wd _ _ rfl) ?_))))
        cases hp : isPair e with
        | false =>
          rw [notPair_st hp rfl]
          exact sv_whenT ((et_pair (ev_var rfl) he.noDict).is (by rw [hp]; rfl)) (sv_ret ev_bl)
        | true =>
          obtain ⟨x, y, rfl⟩ := pair_of hp
          have hx : Sv x := he.memT (by simp)
          have hy : Sv y := he.memT (by simp)
          have X0 : EvD (tOp (rIx K) (tVar 1) (tC (.int 0))) [some (Kd.above a b).data, some (.tuple [x, y])] x := ev_op (ev_var rfl) ev_int (rv_ixT0 rfl)
          have X1 : EvD (tOp (rIx K) (tVar 1) (tC (.int 1))) [some (Kd.above a b).data, some (.tuple [x, y])] y := ev_op (ev_var rfl) ev_int (rv_ixT1 rfl)
          refine sv_whenF ((et_pair (ev_var rfl) he.noDict).is (by rw [hp]; rfl)) (sv_whenF (Wn _ _ rfl) ?_)
          cases hxs : isStr x with
          | false =>
            have : isSt (Kd.above a b) (.tuple [x, y]) = false := by cases x <;> first | rfl | cases hxs
            rw [this]
            exact sv_whenT (et_orT (et_notF (et_B ((ev_isi X0 (kit_str hx.noDict)).is (by rw [hxs]))))) (sv_ret ev_bl)
          | true =>
            obtain ⟨s, rfl⟩ : ∃ s, x = .str s := by cases x <;> first | exact ⟨_, rfl⟩ | cases hxs
            show SvO _ _ (.ret (.bool (if s = "low" then isSt a y else if s = "high" then isSt b y else false)))
            have In2 : EvT (tTest (tOp (rIn K true) (tOp (rIx K) (tVar 1) (tC (.int 0))) (tTup (tCons (tC (.str "low")) (tCons (tC (.str "high")) tNil))))) [some (Kd.above a b).data, some (.tuple [.str s, y])] (!(["low", "high"] : List Str).contains s) := et_test (ev_op X0 (ev_tup (ea_two ev_str ev_str) (by simp)) (rv_ninTS ["low", "high"] rfl))
            by_cases z : s = "low"
            · rw [if_pos z]
              refine sv_whenF (et_orF (et_notT (et_B (ev_isi X0 (kit_str rfl)))) (In2.is (by rw [z]; rfl))) (sv_ret ?_)
              exact ev_callIs (ea_two (ev_ifT ((et_test (ev_op X0 ev_str rv_eqS)).is (decide_eq_true z)) (V 0 _ rfl)) X1) ⟨_, _, rfl, R a y (by simp [Kd.subs]) hy⟩ (isF_is a y)
            · rw [if_neg z]
              by_cases z2 : s = "high"
              · rw [if_pos z2]
                refine sv_whenF (et_orF (et_notT (et_B (ev_isi X0 (kit_str rfl)))) (In2.is (by rw [z2]; rfl))) (sv_ret ?_)
                exact ev_callIs (ea_two (ev_ifF ((et_test (ev_op X0 ev_str rv_eqS)).is (decide_eq_false z)) (V 1 _ rfl)) X1) ⟨_, _, rfl, R b y (by simp [Kd.subs]) hy⟩ (isF_is b y)
              · rw [if_neg z2]
                refine sv_whenT (et_orF (et_notT (et_B (ev_isi X0 (kit_str rfl)))) (In2.is ?_)) (sv_ret ev_bl)
                have h1 : (s == "low") = false := beq_eq_false_iff_ne.mpr z
                have h2 : (s == "high") = false := beq_eq_false_iff_ne.mpr z2
                simp only [List.contains_cons, h1, h2, List.contains_nil, Bool.or_false, Bool.not_false]
end
end Pm
namespace Pm
open PySem PySem.Spec PyProof.Rows L2
section
variable {P : Program} {w : World} {K : PySem.W.Frag} {mg : Str → Option Value} {base : Heap} {aS : Addr}

abbrev N__law_least : List Str := ["_law_kind_here", "_law_word"]
theorem sc__law_least : FnScope N__law_least ["_law_kind_here"] (defScope s__law_least) := ⟨rfl, rfl, rfl, by decide +kernel, rfl, by decide +kernel, by decide +kernel⟩
theorem ok__law_least (T : Txt K mg w aS) (F : Stands K mg "_law_least" s__law_least ["_law_kind_here"]) : ∀ n, Cal P w K mg base "_law_least" (n + 1) ["_law_kind_here"] (spLeast n)
  | 0 => F.noneD sc__law_least fun ds ⟨d, _, k, _, hd, _⟩ => by have := k.dep_pos; omega
  | n + 1 => by
    have C__law_least := ok__law_least T F n
    have nd := sc__law_least.nd
    refine F.pure sc__law_least (fun ds h => ?_) fun f cdv A outer s H E hr => ⟨_, (pss_cons (ps_set (i := 1) nd rfl (by first | exact Or.inl rfl | exact Or.inr rfl) (pe_ix (k_ix (K := K) rfl) (pv 0) pe_int (fun _ _ => rfl)))
        (pss_cons (ps_if (pt_cmpR (k_in (K := K) rfl) (pv 1) (pe_lst (pa_cons pe_str (pa_cons pe_str (pa_cons pe_str pa_nil)))) (by rfl)) (pss_one (ps_ret pe_int)) pss_nil)
        (pss_cons (ps_if (pt_cmpR (k_in (K := K) rfl) (pv 1) (pe_lst (pa_cons pe_str (pa_cons pe_str pa_nil))) (by rfl)) (pss_one (ps_ret (pe_lst pa_nil))) pss_nil)
        (pss_cons (ps_if (pt_cmpR op_eq (pv 1) pe_str (nomark _)) (pss_one (ps_ret (pe_tup (pa_cons pe_str (pa_cons (pe_cal C__law_least hr (by omega) (by rfl) (pa_cons (pe_ix (k_ix (K := K) rfl) (pv 0) pe_int (fun _ _ => rfl)) pa_nil)) pa_nil))))) pss_nil)
        (pss_one (ps_ret (pe_tup (pa_cons (pe_cal C__law_least hr (by omega) (by rfl) (pa_cons (pe_ix (k_ix (K := K) rfl) (pv 0) pe_int (fun _ _ => rfl)) pa_nil)) (pa_cons (pe_cal C__law_least hr (by omega) (by rfl) (pa_cons (pe_ix (k_ix (K := K) rfl) (pv 0) pe_int (fun _ _ => rfl)) pa_nil)) pa_nil))))))))), fun ds h => ?_⟩
    · exact p1_len h
    · obtain ⟨d, rfl, k, hk, hd, rfl⟩ := h
      show SvO _ [some k.data, none] (.ret (leastF k.data))
      rw [leastF_is]
      refine sv_asg (ev_word (ev_var rfl)) ?_
      have W0 : EvD (tVar 1) [some k.data, some (.str k.word)] (.str k.word) := ev_var rfl
      have V : ∀ (i : Nat) d, k.rest[i]? = some d → EvD (tOp (rIx K) (tVar 0) (tC (.int ((i + 1 : Nat) : Int)))) [some k.data, some (.str k.word)] d := fun i d e => ev_part (ev_var rfl) ev_int e
      have R : ∀ (s : Kd), s ∈ k.subs → pK1 n s.data := fun s hs => ⟨s, Kd.sub_ok hk hs, by have := Kd.sub_dep hs; omega, rfl⟩
      refine sv_when (et_test (ev_op W0 (EvN.toD (en_lst (ea_cons ev_str (ea_two ev_str ev_str)) (by simp))) (rv_inLS ["count", "row", "table"] rfl))) (fun hb => sv_stop (sv_ret ?_)) fun hb => ?_
      · rw [has3] at hb
        cases k <;> first | exact ev_int | cases hb
      rw [has3] at hb
      refine sv_when (et_test (ev_op W0 (EvN.toD (en_lst (ea_two ev_str ev_str) (by simp))) (rv_inLS ["tops", "map"] rfl))) (fun hb => sv_stop (sv_ret ?_)) fun hb2 => ?_
      · rw [has2] at hb
        cases k <;> first | exact EvN.toD (en_lst ea_nil (by decide)) | cases hb
      rw [has2] at hb2
      refine sv_when (et_test (ev_op W0 ev_str rv_eqS)) (fun hb => sv_stop (sv_ret ?_)) fun hb3 => sv_ret ?_
      · rw [word_above] at hb
        cases k with
        | above a b => exact ev_tup (ea_two ev_str (ev_callIs (ea_one (V 0 _ rfl)) ⟨_, rfl, R a (by simp [Kd.subs])⟩ (leastF_is a))) (by simp)
        | _ => cases hb
      · rw [word_above] at hb3
        cases k with
        | two l a b => exact ev_tup (ea_two (ev_callIs (ea_one (V 0 _ rfl)) ⟨_, rfl, R a (by simp [Kd.subs])⟩ (leastF_is a)) (ev_callIs (ea_one (V 1 _ rfl)) ⟨_, rfl, R b (by simp [Kd.subs])⟩ (leastF_is b))) (by simp)
        | above _ _ => cases hb3
        | tops _ _ => cases hb2
        | map _ => cases hb2
        | _ => cases hb
abbrev N__law_told : List Str := ["_law_kind_here", "_law_state_here", "_law_word", "_law_name", "_law_one"]
theorem sc__law_told : FnScope N__law_told ["_law_kind_here", "_law_state_here"] (defScope s__law_told) := ⟨rfl, rfl, rfl, by decide +kernel, rfl, by decide +kernel, by decide +kernel⟩
theorem ok__law_told (T : Txt K mg w aS) (F : Stands K mg "_law_told" s__law_told ["_law_kind_here", "_law_state_here"]) : ∀ n, Cal P w K mg base "_law_told" (n + 1) ["_law_kind_here", "_law_state_here"] (spToldS n)
  | 0 => F.noneD sc__law_told fun ds ⟨d, e, _, k, _, hd, _⟩ => by have := k.dep_pos; omega
  | n + 1 => by
    have C__law_told := ok__law_told T F n
    have nd := sc__law_told.nd
    refine F.pure sc__law_told (fun ds h => ?_) fun f cdv A outer s H E hr => ⟨_, (pss_cons (ps_set (i := 2) nd rfl (by first | exact Or.inl rfl | exact Or.inr rfl) (pe_ix (k_ix (K := K) rfl) (pv 0) pe_int (fun _ _ => rfl)))
        (pss_cons (ps_if (pt_cmpR (k_in (K := K) rfl) (pv 2) (pe_lst (pa_cons pe_str (pa_cons pe_str (pa_cons pe_str pa_nil)))) (by rfl)) (pss_one (ps_ret (pv 1))) pss_nil)
        (pss_cons (ps_if (pt_cmpR op_eq (pv 2) pe_str (nomark _)) (pss_one (ps_ret (pe_callTy (k_list (K := K) rfl) (by rfl) T.b_list bt_list (pa_cons (pv 1) pa_nil)))) pss_nil)
        (pss_cons (ps_if (pt_cmpR op_eq (pv 2) pe_str (nomark _)) (pss_one (ps_ret (pe_lc (own := [("_law_name", 3), ("_law_one", 4)]) (by rfl) nd (k_pe (K := K) rfl (pv 1)) (blkOk_by (N := N__law_told) (sc := (defScope s__law_told)) (own := [("_law_name", 3), ("_law_one", 4)]) (by decide +kernel)) (fun _ _ _ _ _ => (k_gt (n := 2) (K := K) rfl rfl (pgs_cons (pg_name (i := 3) nd rfl (by first | exact Or.inl rfl | exact Or.inr rfl)) (pgs_cons (pg_name (i := 4) nd rfl (by first | exact Or.inl rfl | exact Or.inr rfl)) pgs_nil)))) (fun _ _ _ _ _ => pts_nil) (fun _ _ _ _ _ => (pe_tup (pa_cons (pv 3) (pa_cons (pe_cal C__law_told hr (by omega) (by rfl) (pa_cons (pe_ix (k_ix (K := K) rfl) (pv 0) pe_int (fun _ _ => rfl)) (pa_cons (pv 4) pa_nil))) pa_nil))))))) pss_nil)
        (pss_cons (ps_if (pt_cmpR op_eq (pv 2) pe_str (nomark _)) (pss_one (ps_ret (pe_tup (pa_cons (pe_ix (k_ix (K := K) rfl) (pv 1) pe_int (fun _ _ => rfl)) (pa_cons (pe_cal C__law_told hr (by omega) (by rfl) (pa_cons (pe_ifExp (pt_cmpR op_eq (pe_ix (k_ix (K := K) rfl) (pv 1) pe_int (fun _ _ => rfl)) pe_str (nomark _)) (pe_ix (k_ix (K := K) rfl) (pv 0) pe_int (fun _ _ => rfl)) (pe_ix (k_ix (K := K) rfl) (pv 0) pe_int (fun _ _ => rfl))) (pa_cons (pe_ix (k_ix (K := K) rfl) (pv 1) pe_int (fun _ _ => rfl)) pa_nil))) pa_nil))))) pss_nil)
        (pss_one (ps_ret (pe_tup (pa_cons (pe_cal C__law_told hr (by omega) (by rfl) (pa_cons (pe_ix (k_ix (K := K) rfl) (pv 0) pe_int (fun _ _ => rfl)) (pa_cons (pe_ix (k_ix (K := K) rfl) (pv 1) pe_int (fun _ _ => rfl)) pa_nil))) (pa_cons (pe_cal C__law_told hr (by omega) (by rfl) (pa_cons (pe_ix (k_ix (K := K) rfl) (pv 0) pe_int (fun _ _ => rfl)) (pa_cons (pe_ix (k_ix (K := K) rfl) (pv 1) pe_int (fun _ _ => rfl)) pa_nil))) pa_nil)))))))))), fun ds h => ?_⟩
    · exact p2_len h
    · obtain ⟨d, e, rfl, k, hk, hd, rfl, hs, he⟩ := h
      show SvO _ [some k.data, some e, none, none, none] (.ret (toldF k.data e))
      rw [toldF_is]
      refine sv_asg (ev_word (ev_var rfl)) ?_
      have W0 : EvD (tVar 2) [some k.data, some e, some (.str k.word), none, none] (.str k.word) := ev_var rfl
      have V : ∀ ρ (i : Nat) d, ρ[0]? = some (some k.data) → k.rest[i]? = some d → EvD (tOp (rIx K) (tVar 0) (tC (.int ((i + 1 : Nat) : Int)))) ρ d := fun ρ i d e1 e => ev_part (ev_var e1) ev_int e
      have R : ∀ (s : Kd) y, s ∈ k.subs → isSt s y = true → Sv y → pTold n s.data y := fun s y hs hy hv => ⟨s, Kd.sub_ok hk hs, by have := Kd.sub_dep hs; omega, rfl, hy, hv⟩
      refine sv_when (et_test (ev_op W0 (EvN.toD (en_lst (ea_cons ev_str (ea_two ev_str ev_str)) (by simp))) (rv_inLS ["count", "row", "table"] rfl))) (fun hb => sv_stop (sv_ret ?_)) fun hb => ?_
      · rw [has3] at hb
        cases k <;> first | exact ev_var rfl | cases hb
      rw [has3] at hb
      refine sv_when (et_test (ev_op W0 ev_str rv_eqS)) (fun hb => sv_stop (sv_ret ?_)) fun hb1 => ?_
      · rw [word_tops] at hb
        cases k with
        | tops a b =>
          cases e with
          | list es => exact EvN.toD (en_list (ev_var rfl) (.l _))
          | tuple es => exact EvN.toD (en_list (ev_var rfl) (.t _))
          | _ => simp [isSt, isLot, seqOf] at hs
        | _ => cases hb
      rw [word_tops] at hb1
      refine sv_when (et_test (ev_op W0 ev_str rv_eqS)) (fun hb => sv_stop (sv_ret ?_)) fun hb2 => ?_
      · rw [word_map] at hb
        cases k with
        | map a =>
          obtain ⟨es, hes⟩ : ∃ es, IsSeq e es := by
            cases e with
            | list es => exact ⟨es, .l _⟩
            | tuple es => exact ⟨es, .t _⟩
            | _ => simp [isSt, seqOf] at hs
          have hs2 : es.all (entOk fun y => isSt a y && !PyData.eqv (told a y) (least a)) = true := by
            have : seqOf e = some es := hes.of
            simp only [isSt, this, Bool.and_eq_true] at hs
            exact hs.1
          obtain ⟨prs, h1, h2⟩ := ents hs2
          subst h1
          have hl := he.len hes
          rw [List.length_map] at hl
          refine (EvN.toD (en_lc1 prs tup2 (fun p => .tuple [p.1, told a p.2]) (fun p => _) (is_either rfl hes) (by omega) (fun p _ => gt_two (by decide) (by decide)) fun p hp =>
            ev_tup (ea_two (ev_var rfl) (ev_callIs (ea_two (V _ 0 _ rfl rfl) (ev_var rfl)) ⟨_, _, rfl, R a p.2 (by simp [Kd.subs]) (by have := (h2 p hp).2; simp only [Bool.and_eq_true] at this; exact this.1) ((he.mem hes (List.mem_map_of_mem hp)).memT (by simp))⟩ (toldF_is a p.2))) (by simp))).is ?_
          show _ = PyData.list ((sq e).map (entBy (told a)))
          rw [hes.sq, List.map_map]; rfl
        | _ => cases hb
      rw [word_map] at hb2
      have V0 := fun i d => V [some k.data, some e, some (.str k.word), none, none] i d rfl
      refine sv_when (et_test (ev_op W0 ev_str rv_eqS)) (fun hb => sv_stop (sv_ret ?_)) fun hb3 => sv_ret ?_
      · rw [word_above] at hb
        cases k with
        | above a b =>
          have hp : isPair e = true := by
            cases e with
            | tuple es =>
              match es, hs with
              | [x, y], _ => rfl
              | [], hs => simp [isSt] at hs
              | [x], hs => cases x <;> simp [isSt] at hs
              | x :: _ :: _ :: _, hs => cases x <;> simp [isSt] at hs
            | _ => simp [isSt] at hs
          obtain ⟨x, y, rfl⟩ := pair_of hp
          obtain ⟨s, rfl⟩ : ∃ s, x = .str s := by cases x <;> first | exact ⟨_, rfl⟩ | simp [isSt] at hs
          have hy : Sv y := he.memT (by simp)
          have X0 : EvD (tOp (rIx K) (tVar 1) (tC (.int 0))) [some (Kd.above a b).data, some (.tuple [.str s, y]), some (.str (Kd.above a b).word), none, none] (.str s) := ev_op (ev_var rfl) ev_int (rv_ixT0 rfl)
          have X1 : EvD (tOp (rIx K) (tVar 1) (tC (.int 1))) [some (Kd.above a b).data, some (.tuple [.str s, y]), some (.str (Kd.above a b).word), none, none] y := ev_op (ev_var rfl) ev_int (rv_ixT1 rfl)
          have hs2 : (if s = "low" then isSt a y else if s = "high" then isSt b y else false) = true := hs
          show EvD _ _ (.tuple [.str s, if s = "low" then told a y else told b y])
          by_cases z : s = "low"
          · rw [if_pos z] at hs2 ⊢
            exact ev_tup (ea_two X0 (ev_callIs (ea_two (ev_ifT ((et_test (ev_op X0 ev_str rv_eqS)).is (decide_eq_true z)) (V0 0 _ rfl)) X1) ⟨_, _, rfl, R a y (by simp [Kd.subs]) hs2 hy⟩ (toldF_is a y))) (by simp)
          · rw [if_neg z] at hs2 ⊢
            have hs3 : isSt b y = true := by
              by_cases z2 : s = "high"
              · rwa [if_pos z2] at hs2
              · rw [if_neg z2] at hs2; cases hs2
            exact ev_tup (ea_two X0 (ev_callIs (ea_two (ev_ifF ((et_test (ev_op X0 ev_str rv_eqS)).is (decide_eq_false z)) (V0 1 _ rfl)) X1) ⟨_, _, rfl, R b y (by simp [Kd.subs]) hs3 hy⟩ (toldF_is b y))) (by simp)
        | _ => cases hb
      · rw [word_above] at hb3
        cases k with
        | two l a b =>
          have hp : isPair e = true := by
            cases e with
            | tuple es =>
              match es, hs with
              | [x, y], _ => rfl
              | [], hs => simp [isSt] at hs
              | [x], hs => simp [isSt] at hs
              | x :: _ :: _ :: _, hs => simp [isSt] at hs
            | _ => simp [isSt] at hs
          obtain ⟨x, y, rfl⟩ := pair_of hp
          simp only [isSt, Bool.and_eq_true] at hs
          exact ev_tup (ea_two (ev_callIs (ea_two (V0 0 _ rfl) (ev_op (ev_var rfl) ev_int (rv_ixT0 rfl))) ⟨_, _, rfl, R a x (by simp [Kd.subs]) hs.1 (he.memT (by simp))⟩ (toldF_is a x)) (ev_callIs (ea_two (V0 1 _ rfl) (ev_op (ev_var rfl) ev_int (rv_ixT1 rfl))) ⟨_, _, rfl, R b y (by simp [Kd.subs]) hs.2 (he.memT (by simp))⟩ (toldF_is b y))) (by simp)
        | above _ _ => cases hb3
        | tops _ _ => cases hb1
        | map _ => cases hb2
        | _ => cases hb
def pLotS (d e : PyData) : Prop := pLot d e ∧ ∃ es, IsSeq e es
abbrev spLotS : Sp := spF (p2 pLotS) (f2 isF)
theorem shaped_sub {n m : Nat} {e : PyData} {es : List PyData} (h : Sm n m e) (hs : IsSeq e es) (hm : m ≤ 63) (p : PyData → Bool) : SeqAt.shaped (.list ((es.filter p).map fun x => x)) = true := shaped_list (n := m) (fun d hd => by
  rw [List.map_id'] at hd
  have := h.mem hs (List.mem_filter.mp hd).1
  exact ⟨fine_canLay d this.f, this.d⟩) hm
theorem shaped_ones {α : Type} (l : List α) : SeqAt.shaped (.list (l.map fun _ => PyData.int 1)) = true := shaped_list (n := 0) (fun d hd => by
  obtain ⟨_, _, rfl⟩ := List.mem_map.mp hd
  exact ⟨by simp [PyData.canLay0], by simp [PyData.depth]⟩) (by decide)
theorem not_lt_int (a b : Int) : decide (b ≤ a) = !decide (a < b) := by
  by_cases h : a < b
  · rw [decide_eq_true h, decide_eq_false (by omega)]; rfl
  · rw [decide_eq_false h, decide_eq_true (by omega)]; rfl
abbrev N__law_is_lot : List Str := ["_law_kind_here", "_law_value", "_law_one", "_law_near", "_law_far"]
theorem sc__law_is_lot : FnScope N__law_is_lot ["_law_kind_here", "_law_value"] (defScope s__law_is_lot) := ⟨rfl, rfl, rfl, by decide +kernel, rfl, by decide +kernel, by decide +kernel⟩
theorem ok__law_is_lot  (T : Txt K mg w aS) (F : Stands K mg "_law_is_lot" s__law_is_lot ["_law_kind_here", "_law_value"]) (C__law_is_count : Cal P w K mg base "_law_is_count" 1 ["_law_value"] (spCnt)) (C__law_is_free : Cal P w K mg base "_law_is_free" 2 ["_law_many", "_law_ties", "_law_points"] (spFree))  : Cal P w K mg base "_law_is_lot" 3 ["_law_kind_here", "_law_value"] (spF (p2 pLotS) (f2 isF)) := by
  have nd := sc__law_is_lot.nd
  refine F.pure sc__law_is_lot (fun ds h => ?_) fun f cdv A outer s H E hr => ⟨_, (pss_cons (ps_if (pt_cmpR (k_neD (K := K) rfl hr.units) (pe_lc (own := [("_law_one", 2)]) (by rfl) nd (k_pe (K := K) rfl (pv 1)) (blkOk_by (N := N__law_is_lot) (sc := (defScope s__law_is_lot)) (own := [("_law_one", 2)]) (by decide +kernel)) (fun _ _ _ _ _ => (pg_name (i := 2) nd rfl (by first | exact Or.inl rfl | exact Or.inr rfl))) (fun _ _ _ _ _ => (pts_one (PW.pt (pw_or (pt_not (pt_val (pe_cal C__law_is_count hr (by omega) (by rfl) (pa_cons (pv 2) pa_nil)))) (pw_or1 (pt_cmpR op_ge (pv 2) (pe_ix (k_ix (K := K) rfl) (pv 0) pe_int (fun _ _ => rfl)) (nomark _))))))) (fun _ _ _ _ _ => (pv 2))) (pe_lst pa_nil) (nomark _)) (pss_one (ps_ret pe_bl)) pss_nil)
        (pss_cons (ps_if (pt_cmpR (k_neD (K := K) rfl hr.units) (pe_lc (own := [("_law_near", 3), ("_law_far", 4)]) (by rfl) nd (k_zip (K := K) rfl (by rfl) T.b_zip (pa_cons (pv 1) (pa_cons (pe_slice (k_sl (K := K) rfl) (pv 1) (po_some pe_int) po_none) pa_nil))) (blkOk_by (N := N__law_is_lot) (sc := (defScope s__law_is_lot)) (own := [("_law_near", 3), ("_law_far", 4)]) (by decide +kernel)) (fun _ _ _ _ _ => (k_gt (n := 2) (K := K) rfl rfl (pgs_cons (pg_name (i := 3) nd rfl (by first | exact Or.inl rfl | exact Or.inr rfl)) (pgs_cons (pg_name (i := 4) nd rfl (by first | exact Or.inl rfl | exact Or.inr rfl)) pgs_nil)))) (fun _ _ _ _ _ => (pts_one (pt_cmpR op_ge (pv 3) (pv 4) (nomark _)))) (fun _ _ _ _ _ => pe_int)) (pe_lst pa_nil) (nomark _)) (pss_one (ps_ret pe_bl)) pss_nil)
        (pss_one (ps_ret (pe_cal C__law_is_free hr (by omega) (by rfl) (pa_cons (pe_ix (k_ix (K := K) rfl) (pv 0) pe_int (fun _ _ => rfl)) (pa_cons (pe_ix (k_ix (K := K) rfl) (pv 0) pe_int (fun _ _ => rfl)) (pa_cons (pv 1) pa_nil)))))))), fun ds h => ?_⟩
  · exact p2_len h
  · obtain ⟨d, e, rfl, ⟨n, ties, ht, rfl, he⟩, es, hes⟩ := h
    show SvO _ _ (.ret (isF _ e))
    rw [isF_is]
    have V : ∀ ρ (i : Nat) d, ρ[0]? = some (some (Kd.tops n ties).data) → (Kd.tops n ties).rest[i]? = some d → EvD (tOp (rIx K) (tVar 0) (tC (.int ((i + 1 : Nat) : Int)))) ρ d := fun ρ i d e1 e => ev_part (ev_var e1) ev_int e
    have hl := he.len hes
    have hse : seqOf e = some es := hes.of
    have hst : isSt (Kd.tops n ties) e = ((es.all fun p => isCnt p && ltN n p) && ((adj es).all ltI && freeB ties (es.map natOf))) := by
      show isLot n ties e = _
      unfold isLot; rw [hse]
    rw [hst]
    refine sv_when (b := !(es.all fun p => isCnt p && ltN n p)) ((et_test (ev_op (EvN.toD (en_lc es (fun x => x) (fun p => !(isCnt p && ltN n p)) (fun x => x) (fun p => _) (is_either rfl hes).id (by omega) (fun _ _ => gt_name (List.mem_singleton.mpr rfl)) (fun p hp => ?_) fun p _ _ => ev_var rfl)) (EvN.toD (en_lst ea_nil (by decide))) (rv_neD (shaped_sub he hes (by decide) _) shaped_nil))).is ?_) (fun hb => sv_stop (sv_ret ?_)) fun hb => ?_
    · have hps := he.mem hes hp
      cases hc : isCnt p with
      | false => exact et_orT (et_notF (et_B (ev_callIs (d := .bool false) (ea_one (ev_var rfl)) ⟨_, rfl, hps.noDict⟩ (congrArg PyData.bool hc))))
      | true =>
        obtain ⟨m, rfl⟩ := cnt_int hc
        refine et_orF (et_notT (et_B (ev_callIs (d := .bool true) (ea_one (ev_var rfl)) ⟨_, rfl, rfl⟩ (congrArg PyData.bool hc)))) ((et_test (ev_op (ev_var rfl) (V _ 0 _ rfl rfl) rv_B)).is ?_)
        rw [not_lt_int]; rfl
    · rw [eqv_nil, filter_empty]
      simp only [Bool.not_not]
    · have hb : (es.all fun p => isCnt p && ltN n p) = false := by simpa using hb
      rw [hb]
      exact ev_bl
    · have hb : (es.all fun p => isCnt p && ltN n p) = true := by simpa using hb
      rw [hb]
      obtain ⟨ns, rfl, hlt⟩ := cnts hb
      rw [Bool.true_and, nat_ns]
      refine sv_when (b := !(adj (ns.map nD)).all ltI) ((et_test (ev_op (EvN.toD (en_lc ((ns.map nD).zip ((ns.map nD).drop 1)) tup2 (fun p => !ltI (tup2 p)) (fun p => .int 1) (fun p => _) (is_adj rfl hes) (by have := zip_len (ns.map nD); omega) (fun p _ => gt_two (by decide) (by decide)) (fun p hp => ?_) fun p _ _ => ev_int)) (EvN.toD (en_lst ea_nil (by decide))) (rv_neD (shaped_ones _) shaped_nil))).is ?_) (fun hb => sv_stop (sv_ret ?_)) fun hb2 => ?_
      · obtain ⟨m1, m2⟩ := zip_mem hp
        obtain ⟨a, _, e1⟩ := List.mem_map.mp m1
        obtain ⟨b, _, e2⟩ := List.mem_map.mp m2
        obtain ⟨x, y⟩ := p
        have e1 : nD a = x := e1
        have e2 : nD b = y := e2
        subst e1 e2
        exact (et_test (ev_op (ev_var rfl) (ev_var rfl) rv_B)).is (by rw [not_lt_int]; rfl)
      · rw [eqv_nil, filter_empty]
        simp only [Bool.not_not]
        rw [adj_zip, List.all_map]; rfl
      · have hb2 : (adj (ns.map nD)).all ltI = false := by simpa using hb
        rw [hb2]
        exact ev_bl
      · have hb2 : (adj (ns.map nD)).all ltI = true := by simpa using hb2
        rw [hb2, Bool.true_and]
        exact sv_ret (ev_callIs (ea_cons (V _ 0 _ rfl rfl) (ea_two (V _ 1 _ rfl rfl) (ev_var rfl))) ⟨_, _, _, rfl, n, ties, ns, ht, rfl, .l _, hes, hlt, by rw [List.length_map] at hl; omega⟩ (freeF_is (d := nD n) (.l _) hes))
end
end Pm
namespace Pm
open PySem PySem.Spec PyProof.Rows L2
section
variable {P : Program} {w : World} {K : PySem.W.Frag} {mg : Str → Option Value} {base : Heap} {aS : Addr}

def pMapS (n : Nat) (d e : PyData) : Prop := ∃ k : Kd, k.ok = true ∧ k.dep ≤ n ∧ d = (Kd.map k).data ∧ Sv e ∧ ∃ es, IsSeq e es
abbrev spMapS (n : Nat) : Sp := spF (p2 (pMapS n)) (f2 isF)
theorem find_all {α : Type} (l : List α) (p : α → Bool) (x : PyData) : l.findSome? (fun a => if p a then none else some x) = if l.all p then none else some x := by
  induction l with
  | nil => rfl
  | cons a r ih =>
    rw [List.findSome?_cons, List.all_cons]
    cases h : p a
    · rfl
    · simpa using ih
theorem sv_allOr {α : Type} {wi : TI} {g : TG} {tb tw : TS} {ρ : Rho} {vs : List Nat} (ys : List α) (g0 : α → PyData) (ρ0 : Rho) (r : α → Rho) (p : α → Bool) {x : PyData} {d : PyData} (hs : IsD wi ρ (ys.map g0)) (l : Rle ρ0 ρ) (hg : ∀ x ∈ ys, GtD g ρ0 (g0 x) (r x) vs)
    (hb1 : ∀ y ∈ ys, p y = true → SvO tb (r y) (.next ρ0)) (hb0 : ∀ y ∈ ys, p y = false → SvO tb (r y) (.ret x)) (h1 : ys.all p = true → SvO tw ρ0 (.ret d)) (h0 : ys.all p = false → x = d) : SvO (tSeq (tFor wi g tb) tw) ρ (.ret d) := by
  have h := sv_for ys g0 ρ0 r (fun a => if p a then none else some x) hs l.len l.val hg (tb := tb) fun y hy => by
    cases hp : p y with
    | true => exact hb1 y hy hp
    | false => exact hb0 y hy hp
  rw [find_all] at h
  cases ha : ys.all p with
  | true =>
    rw [ha] at h
    exact sv_seq h (h1 ha)
  | false =>
    rw [ha] at h
    exact (sv_stop h).is (h0 ha)
theorem sv_stop' {t : TT} {ts tw : TS} {ρ : Rho} {b : Bool} {d : PyData} (h : EvT t ρ b) (hb : b = true) (h1 : SvO ts ρ (.ret d)) : SvO (tIfS t ts tw) ρ (.ret d) := sv_if (b := true) (h.is hb) (fun _ => h1) fun z => nomatch z
abbrev N__law_is_map : List Str := ["_law_kind_here", "_law_value", "_law_entry", "_law_near", "_law_far"]
theorem sc__law_is_map : FnScope N__law_is_map ["_law_kind_here", "_law_value"] (defScope s__law_is_map) := ⟨rfl, rfl, rfl, by decide +kernel, rfl, by decide +kernel, by decide +kernel⟩
theorem ok__law_is_map (n : Nat) (n4 : n ≤ 4) (T : Txt K mg w aS) (F : Stands K mg "_law_is_map" s__law_is_map ["_law_kind_here", "_law_value"]) (C__law_is_name : Cal P w K mg base "_law_is_name" 1 ["_law_value"] (spF (p1 fun d => shortS d ∧ d.canLay0 = true) (f1 fun d => .bool (isName d)))) (C__law_is : Cal P w K mg base "_law_is" (3 * n + 10) ["_law_kind_here", "_law_value"] (spIsv n)) (C__law_told : Cal P w K mg base "_law_told" (n + 1) ["_law_kind_here", "_law_state_here"] (spToldS n)) (C__law_least : Cal P w K mg base "_law_least" (n + 1) ["_law_kind_here"] (spLeast n))  : Cal P w K mg base "_law_is_map" (3 * n + 11) ["_law_kind_here", "_law_value"] (spF (p2 (pMapS n)) (f2 isF)) := by
  have nd := sc__law_is_map.nd
  refine F.pure sc__law_is_map (fun ds h => ?_) fun f cdv A outer s H E hr => ⟨_, (pss_cons (ps_for PassesOwn.never rfl (k_pe (K := K) rfl (pv 1)) (pg_name (i := 2) nd rfl (by first | exact Or.inl rfl | exact Or.inr rfl)) (pss_cons (ps_if (PW.pt (pw_or (pt_not (pt_val (pe_callB (k_isi (K := K) rfl) (by rfl) T.b_isinstance bt_isinstance (pa_cons (pv 2) (pa_cons (pe_bltn (v := .ty "tuple") (by rfl) T.b_tuple bt_tuple rfl) pa_nil))))) (pw_or (pt_cmpR op_ne (pe_callB (k_len (K := K) rfl) (by rfl) T.b_len bt_len (pa_cons (pv 2) pa_nil)) pe_int (nomark _)) (pw_or1 (pt_not (pt_val (pe_cal C__law_is_name hr (by omega) (by rfl) (pa_cons (pe_ix (k_ix (K := K) rfl) (pv 2) pe_int (fun _ _ => rfl)) pa_nil)))))))) (pss_one (ps_ret pe_bl)) pss_nil)
        (pss_one (ps_if (PW.pt (pw_or (pt_not (pt_val (pe_cal C__law_is hr (by omega) (by rfl) (pa_cons (pe_ix (k_ix (K := K) rfl) (pv 0) pe_int (fun _ _ => rfl)) (pa_cons (pe_ix (k_ix (K := K) rfl) (pv 2) pe_int (fun _ _ => rfl)) pa_nil))))) (pw_or1 (pt_cmpR (k_eqD (K := K) rfl hr.units) (pe_cal C__law_told hr (by omega) (by rfl) (pa_cons (pe_ix (k_ix (K := K) rfl) (pv 0) pe_int (fun _ _ => rfl)) (pa_cons (pe_ix (k_ix (K := K) rfl) (pv 2) pe_int (fun _ _ => rfl)) pa_nil))) (pe_cal C__law_least hr (by omega) (by rfl) (pa_cons (pe_ix (k_ix (K := K) rfl) (pv 0) pe_int (fun _ _ => rfl)) pa_nil)) (nomark _))))) (pss_one (ps_ret pe_bl)) pss_nil))))
        (pss_one (ps_ret (pe_cmpR (k_eqD (K := K) rfl hr.units) (pe_lc (own := [("_law_near", 3), ("_law_far", 4)]) (by rfl) nd (k_zip (K := K) rfl (by rfl) T.b_zip (pa_cons (pv 1) (pa_cons (pe_slice (k_sl (K := K) rfl) (pv 1) (po_some pe_int) po_none) pa_nil))) (blkOk_by (N := N__law_is_map) (sc := (defScope s__law_is_map)) (own := [("_law_near", 3), ("_law_far", 4)]) (by decide +kernel)) (fun _ _ _ _ _ => (k_gt (n := 2) (K := K) rfl rfl (pgs_cons (pg_name (i := 3) nd rfl (by first | exact Or.inl rfl | exact Or.inr rfl)) (pgs_cons (pg_name (i := 4) nd rfl (by first | exact Or.inl rfl | exact Or.inr rfl)) pgs_nil)))) (fun _ _ _ _ _ => (pts_one (pt_cmpR op_ge_str (pe_ix (k_ix (K := K) rfl) (pv 3) pe_int (fun _ _ => rfl)) (pe_ix (k_ix (K := K) rfl) (pv 4) pe_int (fun _ _ => rfl)) (nomark _)))) (fun _ _ _ _ _ => pe_int)) (pe_lst pa_nil) (nomark _))))), fun ds h => ?_⟩
  · exact p2_len h
  · obtain ⟨d, e, rfl, k, hk, hd, rfl, he, es, hes⟩ := h
    show SvO _ _ (.ret (isF (Kd.map k).data e))
    rw [isF_is]
    have hl := he.len hes
    have hse : seqOf e = some es := hes.of
    have hst : isSt (.map k) e = ((es.all (entOk (entP k))) && (adj es).all ltS) := by
      simp only [isSt, hse]; rfl
    rw [hst]
    have V : ∀ ρ (i : Nat) d, ρ[0]? = some (some (Kd.map k).data) → (Kd.map k).rest[i]? = some d → EvD (tOp (rIx K) (tVar 0) (tC (.int ((i + 1 : Nat) : Int)))) ρ d := fun ρ i d e1 e => ev_part (ev_var e1) ev_int e
    refine sv_allOr (vs := [2]) es (fun x => x) [some (Kd.map k).data, some e, none, none, none] (fun p => [some (Kd.map k).data, some e, some p, none, none]) (entOk (entP k)) (x := .bool false) (is_either rfl hes).id Rle.refl (fun _ _ => gt_name (by decide)) (fun p hp hok => ?_) (fun p hp hno => ?_) (fun hall => ?_) fun hno => ?_
    · have hps := he.mem hes hp
      obtain ⟨prs, h1, h2⟩ := ents (es := [p]) (by simpa using hok)
      obtain ⟨q, rfl⟩ : ∃ q, prs = [q] := by
        cases prs with
        | nil => simp at h1
        | cons q r => cases r with
          | nil => exact ⟨q, rfl⟩
          | cons _ _ => simp at h1
      obtain ⟨x, y⟩ := q
      have h1 : p = .tuple [x, y] := (List.cons.inj h1).1
      subst h1
      obtain ⟨hx, hy⟩ := h2 (x, y) (by simp)
      have hx : isName x = true := hx
      have hy : entP k y = true := hy
      have sx : Sv x := hps.memT (by simp)
      have sy : Sv y := hps.memT (by simp)
      unfold entP at hy
      simp only [Bool.and_eq_true, Bool.not_eq_true'] at hy
      have X0 : EvD (tOp (rIx K) (tVar 2) (tC (.int 0))) [some (Kd.map k).data, some e, some (.tuple [x, y]), none, none] x := ev_op (ev_var rfl) ev_int (rv_ixT0 rfl)
      have X1 : EvD (tOp (rIx K) (tVar 2) (tC (.int 1))) [some (Kd.map k).data, some e, some (.tuple [x, y]), none, none] y := ev_op (ev_var rfl) ev_int (rv_ixT1 rfl)
      refine sv_whenF (et_orF (et_notT (et_B (ev_isi (ev_var rfl) (kit_tup rfl)))) (et_orF ((et_test (ev_op (ev_cb (ea_one (ev_var rfl)) rc_lenT) ev_int rv_neI)).is rfl) (et_notT (et_B (ev_callIs (ea_one X0) ⟨_, rfl, sx.short, fine_canLay _ sx.f⟩ (congrArg PyData.bool hx)))))) ?_
      refine sv_less (sv_if (b := false) (et_orF (et_notT (et_B (ev_callIs (ea_two (V _ 0 _ rfl rfl) X1) ⟨_, _, rfl, k, hk, hd, rfl, sy⟩ ((isF_is k y).trans (congrArg PyData.bool hy.1))))) ((et_test (ev_op (ev_callIs (ea_two (V _ 0 _ rfl rfl) X1) ⟨_, _, rfl, k, hk, hd, rfl, hy.1, sy⟩ (toldF_is k y)) (ev_callIs (ea_one (V _ 0 _ rfl rfl)) ⟨_, rfl, k, hk, hd, rfl⟩ (leastF_is k)) (rv_eqD (told_shaped sy hy.1) (least_shaped (by omega))))).is hy.2)) (fun z => nomatch z) fun _ => sv_next) (by repeat first | exact Rle.nil | refine Rle.same ?_ | refine Rle.drop ?_)
    · have hps := he.mem hes hp
      cases hpr : isPair p with
      | false => exact sv_whenT (et_pair3 (ev_var rfl) hps.noDict hpr) (sv_ret ev_bl)
      | true =>
        obtain ⟨x, y, rfl⟩ := pair_of hpr
        have sx : Sv x := hps.memT (by simp)
        have sy : Sv y := hps.memT (by simp)
        have X0 : EvD (tOp (rIx K) (tVar 2) (tC (.int 0))) [some (Kd.map k).data, some e, some (.tuple [x, y]), none, none] x := ev_op (ev_var rfl) ev_int (rv_ixT0 rfl)
        have X1 : EvD (tOp (rIx K) (tVar 2) (tC (.int 1))) [some (Kd.map k).data, some e, some (.tuple [x, y]), none, none] y := ev_op (ev_var rfl) ev_int (rv_ixT1 rfl)
        have hno : (isName x && entP k y) = false := hno
        refine sv_when (et_orF (et_notT (et_B (ev_isi (ev_var rfl) (kit_tup rfl)))) (et_orF ((et_test (ev_op (ev_cb (ea_one (ev_var rfl)) rc_lenT) ev_int rv_neI)).is rfl) (et_not (et_B (ev_callIs (d := .bool (isName x)) (ea_one X0) ⟨_, rfl, sx.short, fine_canLay _ sx.f⟩ rfl))))) (fun _ => sv_stop (sv_ret ev_bl)) fun hb => ?_
        have hb : isName x = true := by simpa using hb
        rw [hb, Bool.true_and] at hno
        refine sv_stop' (et_or (b := !isSt k y) (b' := PyData.eqv (told k y) (least k)) (et_not (et_B (ev_callIs (ea_two (V _ 0 _ rfl rfl) X1) ⟨_, _, rfl, k, hk, hd, rfl, sy⟩ (isF_is k y)))) fun hs => ?_) ?_ (sv_ret ev_bl)
        · have hs : isSt k y = true := by simpa using hs
          exact et_test (ev_op (ev_callIs (ea_two (V _ 0 _ rfl rfl) X1) ⟨_, _, rfl, k, hk, hd, rfl, hs, sy⟩ (toldF_is k y)) (ev_callIs (ea_one (V _ 0 _ rfl rfl)) ⟨_, rfl, k, hk, hd, rfl⟩ (leastF_is k)) (rv_eqD (told_shaped sy hs) (least_shaped (by omega))))
        · unfold entP at hno
          cases h1 : isSt k y
          · rfl
          · rw [h1] at hno; simpa using hno
    · rw [hall, Bool.true_and]
      obtain ⟨prs, rfl, hprs⟩ := ents hall
      refine sv_ret ((ev_op (EvN.toD (en_lc ((prs.map tup2).zip ((prs.map tup2).drop 1)) tup2 (fun p => !ltS (tup2 p)) (fun p => .int 1) (fun p => _) (is_adj rfl hes) (by have := zip_len (prs.map tup2); omega) (fun p _ => gt_two (by decide) (by decide)) (fun p hp => ?_) fun p _ _ => ev_int)) (EvN.toD (en_lst ea_nil (by decide))) (rv_eqD (shaped_ones _) shaped_nil)).is ?_)
      · obtain ⟨m1, m2⟩ := zip_mem hp
        obtain ⟨a, ma, e1⟩ := List.mem_map.mp m1
        obtain ⟨b, mb, e2⟩ := List.mem_map.mp m2
        obtain ⟨x, y⟩ := p
        obtain ⟨a1, a2⟩ := a
        obtain ⟨b1, b2⟩ := b
        have e1 : PyData.tuple [a1, a2] = x := e1
        have e2 : PyData.tuple [b1, b2] = y := e2
        subst e1 e2
        obtain ⟨s, rfl⟩ : ∃ s, a1 = .str s := by
          have := (hprs _ ma).1
          cases a1 <;> first | exact ⟨_, rfl⟩ | cases this
        obtain ⟨z, rfl⟩ : ∃ s, b1 = .str s := by
          have := (hprs _ mb).1
          cases b1 <;> first | exact ⟨_, rfl⟩ | cases this
        exact et_test (ev_op (ev_op (ev_var rfl) ev_int (rv_ixT0 rfl)) (ev_op (ev_var rfl) ev_int (rv_ixT0 rfl)) rv_geS)
      · rw [eqv_nil, filter_empty]
        simp only [Bool.not_not]
        rw [adj_zip, List.all_map]; rfl
    · rw [hno, Bool.false_and]
abbrev N__law_is : List Str := ["_law_kind_here", "_law_value", "_law_word"]
theorem sc__law_is : FnScope N__law_is ["_law_kind_here", "_law_value"] (defScope s__law_is) := ⟨rfl, rfl, rfl, by decide +kernel, rfl, by decide +kernel, by decide +kernel⟩
theorem ok__law_is (T : Txt K mg w aS) (F : Stands K mg "_law_is" s__law_is ["_law_kind_here", "_law_value"]) (Fm : Stands K mg "_law_is_map" s__law_is_map ["_law_kind_here", "_law_value"])
    (C__law_is_name : Cal P w K mg base "_law_is_name" 1 ["_law_value"] (spF (p1 fun d => shortS d ∧ d.canLay0 = true) (f1 fun d => .bool (isName d)))) (C__law_is_count : Cal P w K mg base "_law_is_count" 1 ["_law_value"] (spCnt)) (C__law_is_lot : Cal P w K mg base "_law_is_lot" 3 ["_law_kind_here", "_law_value"] (spLotS))
    (Ct : ∀ n, Cal P w K mg base "_law_told" (n + 1) ["_law_kind_here", "_law_state_here"] (spToldS n)) (Cl : ∀ n, Cal P w K mg base "_law_least" (n + 1) ["_law_kind_here"] (spLeast n)) : ∀ n, n ≤ 4 → Cal P w K mg base "_law_is" (3 * n + 10) ["_law_kind_here", "_law_value"] (spIsv n)
  | 0, _ => (F.noneD sc__law_is fun ds ⟨d, e, _, k, _, hd, _⟩ => by have := k.dep_pos; omega).up (by omega)
  | n + 1, n4 => by
    have C__law_is := ok__law_is T F Fm C__law_is_name C__law_is_count C__law_is_lot Ct Cl n (by omega)
    have C__law_is_map := ok__law_is_map n (by omega) T Fm C__law_is_name C__law_is (Ct n) (Cl n)
    have nd := sc__law_is.nd
    refine Cal.up (j := 3 * n + 12) ?_ (by omega)
    refine F.pure sc__law_is (fun ds h => ?_) fun f cdv A outer s H E hr => ⟨_, (pss_cons (ps_set (i := 2) nd rfl (by first | exact Or.inl rfl | exact Or.inr rfl) (pe_ix (k_ix (K := K) rfl) (pv 0) pe_int (fun _ _ => rfl)))
        (pss_cons (ps_if (pt_cmpR (k_in (K := K) rfl) (pv 2) (pe_lst (pa_cons pe_str (pa_cons pe_str (pa_cons pe_str pa_nil)))) (by rfl)) (pss_cons (ps_if (PW.pt (pw_or (pt_not (pt_val (pe_cal C__law_is_count hr (by omega) (by rfl) (pa_cons (pv 1) pa_nil)))) (pw_or1 (pt_cmpR op_eq (pv 2) pe_str (nomark _))))) (pss_one (ps_ret (pe_cal C__law_is_count hr (by omega) (by rfl) (pa_cons (pv 1) pa_nil)))) pss_nil)
        (pss_one (ps_ret (pe_cmpR op_lt (pv 1) (pe_ifExp (pt_cmpR op_eq (pv 2) pe_str (nomark _)) (pe_ix (k_ix (K := K) rfl) (pv 0) pe_int (fun _ _ => rfl)) (pe_callB (k_len (K := K) rfl) (by rfl) T.b_len bt_len (pa_cons (pe_ix (k_ix (K := K) rfl) (pv 0) pe_int (fun _ _ => rfl)) pa_nil))) (nomark _))))) pss_nil)
        (pss_cons (ps_if (pt_cmpR (k_in (K := K) rfl) (pv 2) (pe_lst (pa_cons pe_str (pa_cons pe_str pa_nil))) (by rfl)) (pss_cons (ps_if (pt_not (pt_val (pe_callB (k_isiT (K := K) rfl) (by rfl) T.b_isinstance bt_isinstance (pa_cons (pv 1) (pa_cons (pe_tup (pa_cons (pe_bltn (v := .ty "list") (by rfl) T.b_list bt_list rfl) (pa_cons (pe_bltn (v := .ty "tuple") (by rfl) T.b_tuple bt_tuple rfl) pa_nil))) pa_nil))))) (pss_one (ps_ret pe_bl)) pss_nil)
        (pss_one (ps_ret (pe_ifExp (pt_cmpR op_eq (pv 2) pe_str (nomark _)) (pe_cal C__law_is_lot hr (by omega) (by rfl) (pa_cons (pv 0) (pa_cons (pv 1) pa_nil))) (pe_cal C__law_is_map hr (by omega) (by rfl) (pa_cons (pv 0) (pa_cons (pv 1) pa_nil))))))) pss_nil)
        (pss_cons (ps_if (PW.pt (pw_or (pt_not (pt_val (pe_callB (k_isi (K := K) rfl) (by rfl) T.b_isinstance bt_isinstance (pa_cons (pv 1) (pa_cons (pe_bltn (v := .ty "tuple") (by rfl) T.b_tuple bt_tuple rfl) pa_nil))))) (pw_or1 (pt_cmpR op_ne (pe_callB (k_len (K := K) rfl) (by rfl) T.b_len bt_len (pa_cons (pv 1) pa_nil)) pe_int (nomark _))))) (pss_one (ps_ret pe_bl)) pss_nil)
        (pss_cons (ps_if (pt_cmpR op_ne (pv 2) pe_str (nomark _)) (pss_one (ps_ret (pe_and (pe_cal C__law_is hr (by omega) (by rfl) (pa_cons (pe_ix (k_ix (K := K) rfl) (pv 0) pe_int (fun _ _ => rfl)) (pa_cons (pe_ix (k_ix (K := K) rfl) (pv 1) pe_int (fun _ _ => rfl)) pa_nil))) (pe_one (pe_cal C__law_is hr (by omega) (by rfl) (pa_cons (pe_ix (k_ix (K := K) rfl) (pv 0) pe_int (fun _ _ => rfl)) (pa_cons (pe_ix (k_ix (K := K) rfl) (pv 1) pe_int (fun _ _ => rfl)) pa_nil))))))) pss_nil)
        (pss_cons (ps_if (PW.pt (pw_or (pt_not (pt_val (pe_callB (k_isi (K := K) rfl) (by rfl) T.b_isinstance bt_isinstance (pa_cons (pe_ix (k_ix (K := K) rfl) (pv 1) pe_int (fun _ _ => rfl)) (pa_cons (pe_bltn (v := .ty "str") (by rfl) T.b_str bt_str rfl) pa_nil))))) (pw_or1 (pt_cmpR (k_nin (K := K) rfl) (pe_ix (k_ix (K := K) rfl) (pv 1) pe_int (fun _ _ => rfl)) (pe_lst (pa_cons pe_str (pa_cons pe_str pa_nil))) (by rfl))))) (pss_one (ps_ret pe_bl)) pss_nil)
        (pss_one (ps_ret (pe_cal C__law_is hr (by omega) (by rfl) (pa_cons (pe_ifExp (pt_cmpR op_eq (pe_ix (k_ix (K := K) rfl) (pv 1) pe_int (fun _ _ => rfl)) pe_str (nomark _)) (pe_ix (k_ix (K := K) rfl) (pv 0) pe_int (fun _ _ => rfl)) (pe_ix (k_ix (K := K) rfl) (pv 0) pe_int (fun _ _ => rfl))) (pa_cons (pe_ix (k_ix (K := K) rfl) (pv 1) pe_int (fun _ _ => rfl)) pa_nil))))))))))), fun ds h => ?_⟩
    · exact p2_len h
    · obtain ⟨d, e, rfl, k, hk, hd, rfl, he⟩ := h
      show SvO _ [some k.data, some e, none] (.ret (isF k.data e))
      rw [isF_is]
      refine sv_asg (ev_word (ev_var rfl)) ?_
      have W0 : EvD (tVar 2) [some k.data, some e, some (.str k.word)] (.str k.word) := ev_var rfl
      have Wd : ∀ (z : Str) b, decide (k.word = z) = b → EvT (tTest (tOp rEq (tVar 2) (tC (.str z)))) [some k.data, some e, some (.str k.word)] b := fun z b e => (et_test (ev_op W0 ev_str rv_eqS)).is e
      have Wn : ∀ (z : Str) b, (!decide (k.word = z)) = b → EvT (tTest (tOp rNe (tVar 2) (tC (.str z)))) [some k.data, some e, some (.str k.word)] b := fun z b e => (et_test (ev_op W0 ev_str rv_neS)).is e
      have V : ∀ (i : Nat) d, k.rest[i]? = some d → EvD (tOp (rIx K) (tVar 0) (tC (.int ((i + 1 : Nat) : Int)))) [some k.data, some e, some (.str k.word)] d := fun i d e => ev_part (ev_var rfl) ev_int e
      have R : ∀ (s : Kd) y, s ∈ k.subs → Sv y → pIsv n s.data y := fun s y hs hv => ⟨s, Kd.sub_ok hk hs, by have := Kd.sub_dep hs; omega, rfl, hv⟩
      have Cn : EvD (tCall spCnt [] E0 (tCons (tVar 1) tNil)) [some k.data, some e, some (.str k.word)] (.bool (isCnt e)) := ev_callIs (ea_one (ev_var rfl)) ⟨_, rfl, he.noDict⟩ rfl
      have I3 : ∀ b, (["count", "row", "table"] : List Str).contains k.word = b → EvT (tTest (tOp (rIn K false) (tVar 2) (tLst (tCons (tC (.str "count")) (tCons (tC (.str "row")) (tCons (tC (.str "table")) tNil)))))) [some k.data, some e, some (.str k.word)] b := fun b h => (et_test (ev_op W0 (EvN.toD (en_lst (ea_cons ev_str (ea_two ev_str ev_str)) (by simp))) (rv_inLS ["count", "row", "table"] rfl))).is h
      have I2 : ∀ b, (["tops", "map"] : List Str).contains k.word = b → EvT (tTest (tOp (rIn K false) (tVar 2) (tLst (tCons (tC (.str "tops")) (tCons (tC (.str "map")) tNil))))) [some k.data, some e, some (.str k.word)] b := fun b h => (et_test (ev_op W0 (EvN.toD (en_lst (ea_two ev_str ev_str) (by simp))) (rv_inLS ["tops", "map"] rfl))).is h
      have Sq : EvD (tCB (rIsiT K) (tCons (tVar 1) (tCons (tTup (tCons (tC (.ty "list")) (tCons (tC (.ty "tuple")) tNil))) tNil))) [some k.data, some e, some (.str k.word)] (.bool (isLst e || isTup e)) := ev_isi2 (ev_var rfl) (kit_lst he.noDict) (kit_tup he.noDict)
      cases k with
      | count =>
        refine sv_whenT (I3 _ (has3 _)) ?_
        exact sv_whenT ((et_or (et_not (et_B Cn)) fun _ => Wd _ true rfl).is (by simp)) (sv_ret Cn)
      | row m =>
        refine sv_whenT (I3 _ (has3 _)) ?_
        show SvO _ _ (.ret (.bool (isCnt e && ltN m e)))
        refine sv_when (et_or (et_not (et_B Cn)) fun _ => Wd _ false rfl) (fun hb => sv_stop (sv_ret (Cn.is ?_))) fun hb => ?_
        · have : isCnt e = false := by simpa using hb
          rw [this]; rfl
        · have hc : isCnt e = true := by simpa using hb
          obtain ⟨x, rfl⟩ := cnt_int hc
          rw [hc]
          exact sv_ret (ev_op (ev_var rfl) (ev_ifT (Wd _ _ rfl) (V 0 _ rfl)) rv_B)
      | tab rows =>
        refine sv_whenT (I3 _ (has3 _)) ?_
        show SvO _ _ (.ret (.bool (isCnt e && ltN rows.length e)))
        refine sv_when (et_or (et_not (et_B Cn)) fun _ => Wd _ false rfl) (fun hb => sv_stop (sv_ret (Cn.is ?_))) fun hb => ?_
        · have : isCnt e = false := by simpa using hb
          rw [this]; rfl
        · have hc : isCnt e = true := by simpa using hb
          obtain ⟨x, rfl⟩ := cnt_int hc
          rw [hc]
          exact sv_ret ((ev_op (ev_var rfl) (ev_ifF (Wd _ _ rfl) (ev_cb (ea_one (V 0 _ rfl)) rc_lenL)) rv_B).is (by rw [List.length_map]; rfl))
      | tops m ties =>
        have ht : (m, ties) ∈ okTops := by simpa [Kd.ok] using hk
        refine sv_whenF (I3 _ (has3 _)) (sv_whenT (I2 _ (has2 _)) ?_)
        rcases seq_dec e he.noDict with ⟨es, hes⟩ | hno
        · refine sv_whenF (et_notT ((et_B Sq).is (by cases hes <;> rfl))) (sv_ret (ev_ifT (Wd _ _ rfl) (ev_callIs (ea_two (ev_var rfl) (ev_var rfl)) ⟨_, _, rfl, ⟨m, ties, ht, rfl, he⟩, es, hes⟩ (isF_is _ _))))
        · have hst : isSt (Kd.tops m ties) e = false := by
            show isLot m ties e = _
            unfold isLot; rw [hno]
          rw [hst]
          exact sv_whenT (et_notF ((et_B Sq).is (flat_seq hno he.noDict))) (sv_ret ev_bl)
      | map a =>
        refine sv_whenF (I3 _ (has3 _)) (sv_whenT (I2 _ (has2 _)) ?_)
        rcases seq_dec e he.noDict with ⟨es, hes⟩ | hno
        · refine sv_whenF (et_notT ((et_B Sq).is (by cases hes <;> rfl))) (sv_ret (ev_ifF (Wd _ _ rfl) (ev_callIs (ea_two (ev_var rfl) (ev_var rfl)) ⟨_, _, rfl, a, Kd.sub_ok hk (by simp [Kd.subs]), by simp only [Kd.dep] at hd; omega, rfl, he, es, hes⟩ (isF_is _ _))))
        · have hst : isSt (Kd.map a) e = false := by simp only [isSt, hno]
          rw [hst]
          exact sv_whenT (et_notF ((et_B Sq).is (flat_seq hno he.noDict))) (sv_ret ev_bl)
      | two l a b =>
        have hw : ∀ z : Str, z ≠ "pair" → z ≠ "later" → decide ((Kd.two l a b).word = z) = false := fun z h1 h2 => decide_eq_false (by cases l; exact fun e => h1 e.symm; exact fun e => h2 e.symm)
        refine sv_whenF (I3 _ (has3 _)) (sv_whenF (I2 _ (has2 _)) ?_)
        cases hp : isPair e with
        | false =>
          rw [notPair_st hp rfl]
          exact sv_whenT ((et_pair (ev_var rfl) he.noDict).is (by rw [hp]; rfl)) (sv_ret ev_bl)
        | true =>
          obtain ⟨x, y, rfl⟩ := pair_of hp
          refine sv_whenF ((et_pair (ev_var rfl) he.noDict).is (by rw [hp]; rfl)) ?_
          refine sv_whenT (Wn _ _ (by rw [hw _ (by decide +kernel) (by decide +kernel)]; rfl)) (sv_ret ?_)
          exact ev_and (ev_callIs (ea_two (V 0 _ rfl) (ev_op (ev_var rfl) ev_int (rv_ixT0 rfl))) ⟨_, _, rfl, R a x (by simp [Kd.subs]) (he.memT (by simp))⟩ (isF_is a x)) fun _ => ev_callIs (ea_two (V 1 _ rfl) (ev_op (ev_var rfl) ev_int (rv_ixT1 rfl))) ⟨_, _, rfl, R b y (by simp [Kd.subs]) (he.memT (by simp))⟩ (isF_is b y)
      | above a b =>
        refine sv_whenF (I3 _ (has3 _)) (sv_whenF (I2 _ (has2 _)) ?_)
        cases hp : isPair e with
        | false =>
          rw [notPair_st hp rfl]
          exact sv_whenT ((et_pair (ev_var rfl) he.noDict).is (by rw [hp]; rfl)) (sv_ret ev_bl)
        | true =>
          obtain ⟨x, y, rfl⟩ := pair_of hp
          have hx : Sv x := he.memT (by simp)
          have hy : Sv y := he.memT (by simp)
          have X0 : EvD (tOp (rIx K) (tVar 1) (tC (.int 0))) [some (Kd.above a b).data, some (.tuple [x, y]), some (.str (Kd.above a b).word)] x := ev_op (ev_var rfl) ev_int (rv_ixT0 rfl)
          have X1 : EvD (tOp (rIx K) (tVar 1) (tC (.int 1))) [some (Kd.above a b).data, some (.tuple [x, y]), some (.str (Kd.above a b).word)] y := ev_op (ev_var rfl) ev_int (rv_ixT1 rfl)
          refine sv_whenF ((et_pair (ev_var rfl) he.noDict).is (by rw [hp]; rfl)) (sv_whenF (Wn _ _ rfl) ?_)
          cases hxs : isStr x with
          | false =>
            have : isSt (Kd.above a b) (.tuple [x, y]) = false := by cases x <;> first | rfl | cases hxs
            rw [this]
            exact sv_whenT (et_orT (et_notF (et_B ((ev_isi X0 (kit_str hx.noDict)).is (by rw [hxs]))))) (sv_ret ev_bl)
          | true =>
            obtain ⟨s, rfl⟩ : ∃ s, x = .str s := by cases x <;> first | exact ⟨_, rfl⟩ | cases hxs
            show SvO _ _ (.ret (.bool (if s = "low" then isSt a y else if s = "high" then isSt b y else false)))
            have In2 : EvT (tTest (tOp (rIn K true) (tOp (rIx K) (tVar 1) (tC (.int 0))) (tLst (tCons (tC (.str "low")) (tCons (tC (.str "high")) tNil))))) [some (Kd.above a b).data, some (.tuple [.str s, y]), some (.str (Kd.above a b).word)] (!(["low", "high"] : List Str).contains s) := et_test (ev_op X0 (EvN.toD (en_lst (ea_two ev_str ev_str) (by simp))) (rv_ninLS ["low", "high"] rfl))
            by_cases z : s = "low"
            · rw [if_pos z]
              refine sv_whenF (et_orF (et_notT (et_B (ev_isi X0 (kit_str rfl)))) (In2.is (by rw [z]; rfl))) (sv_ret ?_)
              exact ev_callIs (ea_two (ev_ifT ((et_test (ev_op X0 ev_str rv_eqS)).is (decide_eq_true z)) (V 0 _ rfl)) X1) ⟨_, _, rfl, R a y (by simp [Kd.subs]) hy⟩ (isF_is a y)
            · rw [if_neg z]
              by_cases z2 : s = "high"
              · rw [if_pos z2]
                refine sv_whenF (et_orF (et_notT (et_B (ev_isi X0 (kit_str rfl)))) (In2.is (by rw [z2]; rfl))) (sv_ret ?_)
                exact ev_callIs (ea_two (ev_ifF ((et_test (ev_op X0 ev_str rv_eqS)).is (decide_eq_false z)) (V 1 _ rfl)) X1) ⟨_, _, rfl, R b y (by simp [Kd.subs]) hy⟩ (isF_is b y)
              · rw [if_neg z2]
                refine sv_whenT (et_orF (et_notT (et_B (ev_isi X0 (kit_str rfl)))) (In2.is ?_)) (sv_ret ev_bl)
                have h1 : (s == "low") = false := beq_eq_false_iff_ne.mpr z
                have h2 : (s == "high") = false := beq_eq_false_iff_ne.mpr z2
                simp only [List.contains_cons, h1, h2, List.contains_nil, Bool.or_false, Bool.not_false]
end
end Pm
namespace Pm
open PySem PySem.Spec PyProof.Rows L2
section
variable {P : Program} {w : World} {K : PySem.W.Frag} {mg : Str → Option Value} {base : Heap} {aS : Addr}

def pKS (d e : PyData) : Prop := ∃ k : Kd, k.ok = true ∧ k.dep ≤ 4 ∧ k.size ≤ 12 ∧ d = k.data ∧ Sv e
abbrev spIsS : Sp := spF (p2 pKS) (f2 isF)
abbrev pKd1 : PyData → Prop := fun d => ∃ k : Kd, k.ok = true ∧ k.dep ≤ 4 ∧ k.size ≤ 12 ∧ d = k.data
abbrev spLeastS : Sp := spF (p1 pKd1) (f1 leastF)
abbrev N_is_state : List Str := ["kind", "value"]
theorem sc_is_state : FnScope N_is_state ["kind", "value"] (defScope s_is_state) := ⟨rfl, rfl, rfl, by decide +kernel, rfl, by decide +kernel, by decide +kernel⟩
theorem ok_is_state  (T : Txt K mg w aS) (F : Stands K mg "is_state" s_is_state ["kind", "value"]) (C_want_kind : Cal P w K mg base "want_kind" 7 ["value"] (spWant)) (C_is_state_value : Cal P w K mg base "is_state_value" 22 ["kind", "value"] (spIsv 4))  : Cal P w K mg base "is_state" 23 ["kind", "value"] (spF (p2 pKS) (f2 isF)) := by
  have nd := sc_is_state.nd
  refine F.pure sc_is_state (fun ds h => ?_) fun f cdv A outer s H E hr => ⟨_, (pss_one (ps_ret (pe_cal C_is_state_value hr (by omega) (by rfl) (pa_cons (pe_cal C_want_kind hr (by omega) (by rfl) (pa_cons (pv 0) pa_nil)) (pa_cons (pv 1) pa_nil))))), fun ds h => ?_⟩
  · exact p2_len h
  · obtain ⟨d, e, rfl, k, hk, hd, hz, rfl, he⟩ := h
    exact sv_ret (ev_callIs (ea_two (ev_callIs (ea_one (ev_var rfl)) ⟨_, rfl, k, hk, hd, hz, rfl⟩ rfl) (ev_var rfl)) ⟨_, _, rfl, k, hk, hd, rfl, he⟩ rfl)
abbrev N_least_state : List Str := ["kind"]
theorem sc_least_state : FnScope N_least_state ["kind"] (defScope s_least_state) := ⟨rfl, rfl, rfl, by decide +kernel, rfl, by decide +kernel, by decide +kernel⟩
theorem ok_least_state  (T : Txt K mg w aS) (F : Stands K mg "least_state" s_least_state ["kind"]) (C_want_kind : Cal P w K mg base "want_kind" 7 ["value"] (spWant)) (C_least_by_kind : Cal P w K mg base "least_by_kind" 5 ["kind"] (spLeast 4))  : Cal P w K mg base "least_state" 8 ["kind"] (spF (p1 pKd1) (f1 leastF)) := by
  have nd := sc_least_state.nd
  refine F.pure sc_least_state (fun ds h => ?_) fun f cdv A outer s H E hr => ⟨_, (pss_one (ps_ret (pe_cal C_least_by_kind hr (by omega) (by rfl) (pa_cons (pe_cal C_want_kind hr (by omega) (by rfl) (pa_cons (pv 0) pa_nil)) pa_nil)))), fun ds h => ?_⟩
  · exact p1_len h
  · obtain ⟨d, rfl, k, hk, hd, hz, rfl⟩ := h
    exact sv_ret (ev_callIs (ea_one (ev_callIs (ea_one (ev_var rfl)) ⟨_, rfl, k, hk, hd, hz, rfl⟩ rfl)) ⟨_, rfl, k, hk, hd, rfl⟩ rfl)
end
end Pm
namespace Pm
open PySem PySem.Spec PyProof.Rows L2
section
variable {P : Program} {w : World} {K : PySem.W.Frag} {mg : Str → Option Value} {base : Heap} {aS : Addr}

abbrev N_want_state_of : List Str := ["kind", "value"]
theorem sc_want_state_of : FnScope N_want_state_of ["kind", "value"] (defScope s_want_state_of) := ⟨rfl, rfl, rfl, by decide +kernel, rfl, by decide +kernel, by decide +kernel⟩
abbrev N_told_state : List Str := ["kind", "state"]
theorem sc_told_state : FnScope N_told_state ["kind", "state"] (defScope s_told_state) := ⟨rfl, rfl, rfl, by decide +kernel, rfl, by decide +kernel, by decide +kernel⟩
/-- what the written part says of InvalidState -/
structure Xs (K : PySem.W.Frag) (mg : Str → Option Value) (C fI : Addr) : Prop where
  T : OexC K C
  xf : XfC K C
  noV : PySem.W.findIn K (.ref C) "value" = some none
  exm : PySem.W.exmOne K (.ref C) (.ref C) = some true
  ini : PySem.W.findIn K (.ref C) "__init__" = some (some (.ref fI))
  fn : PySem.W.typeIn K (.ref fI) = some (.type "function")
  glo : mg "InvalidState" = some (.ref C)
def spIni (C : Addr) : Sp := fun vs H Q _ => ∃ (a : Addr) (v : V), vs = [.ref a, v] ∧ H a = some (exo a C none) ∧ ∀ dx, H dx = none → dx ≠ a → Q .non (upd (upd H dx (exd dx [("value", v)])) a (exo a C (some dx)))
abbrev N_ini : List Str := ["self", "value"]
theorem sc_ini : FnScope N_ini ["self", "value"] (defScope sInit) := ⟨rfl, rfl, rfl, by decide +kernel, rfl, by decide +kernel, by decide +kernel⟩
theorem ok_ini {C fI f : Addr} {fd : FuncData} (xs : Xs K mg C fI) (F : FunD K "__init__" "InvalidState.__init__" (defArgs sInit) (defBody sInit) (defScope sInit) [] [] f fd) : FnOk P w K mg base CX0 1 f fd ["self", "value"] (spIni C) := by
  refine F.ok sc_ini (fun vs H Q E ⟨a, v, e, _⟩ => by rw [e]; rfl) fun cdv A outer s H vs Q E hr ⟨a, v, e, ha, q⟩ => ⟨_, pss_one (ps_ost (pv 0) (pv 1)), ?_⟩
  subst e
  exact ⟨v, rfl, .ref a, rfl, a, C, rfl, xs.T, xs.noV, .inl ⟨ha, fun dx nd ne => q dx nd ne⟩⟩
/-- the told state, or the error that carries the value -/
def spTS (C : Addr) : Sp := fun vs H Q E => ∃ (ps : List Addr) (k : Kd) (e : PyData), (∀ a ∈ ps, H a ≠ none) ∧ DtA (hid ps H) [k.data, e] vs ∧ k.ok = true ∧ k.dep ≤ 4 ∧ k.size ≤ 12 ∧ Sv e ∧
  (isSt k e = true → ∀ v H2, Same H H2 → Dt (hid ps H2) (told k e) v → Q v H2) ∧
  (isSt k e = false → ∀ dd fs v H2, Same H H2 → H2 dd = some (.xd fs) → fs.lookup ("value" : Str) = some v → Dt (hid ps H2) e v → E (.ref C) (some dd) H2)
theorem spTS_len {C : Addr} {vs : List V} {H : Hp} {Q : VK} {E : XK} (h : spTS C vs H Q E) : vs.length = 2 := by
  obtain ⟨ps, k, e, _, h, _⟩ := h
  exact h.length
structure CalX (P : Program) (w : World) (K : PySem.W.Frag) (mg : Str → Option Value) (base : Heap) (x : Str) (k : Nat) (pn : List Str) (sp : Sp) : Prop where
  ex : ∃ f fd, FnOk P w K mg base (L2.CX P w) k f fd pn sp ∧ Binds K fd pn [] ∧ mg x = some (.ref f) ∧ PySem.W.keepIn K (.ref f) = true
theorem Stands.calX {x : Str} {st : Stmt} {N pn : List Str} {k : Nat} {sp : Sp} (F : Stands K mg x st pn) (S : FnScope N pn (defScope st)) (len : ∀ vs H Q E, sp vs H Q E → vs.length = pn.length)
    (h : ∀ (f : Addr) (cdv : Value) (A : Around) (outer : List Env) (s : Shared) (H : Hp) (E : XK), Room k (A.deeper (envOfC x (defScope st) s.heap.objs.size f cdv)) →
      ∃ t, PSs (cxOf (L2.CX P w) P w K mg base N x (defScope st) f cdv A outer s H E) (defBody st) t ∧ ∀ vs (Q : VK), sp vs H Q E → t { nx := fun _ H' => Q .non H', rt := Q } (L2.start N vs) H) : CalX P w K mg base x (k + 1) pn sp := by
  obtain ⟨f, fd, F, b, g⟩ := F.ex
  refine ⟨f, fd, F.ok S len (fun cdv A outer s H vs Q E hr hsp => ?_), b, g, F.kp⟩
  obtain ⟨t, h1, h2⟩ := h f cdv A outer s H E hr
  exact ⟨t, h1, h2 vs Q hsp⟩
theorem pe_calX {X : Cx} {x : Str} {j k : Nat} {pn : List Str} {sp : Sp} {e : Expr} {es : List Expr} {t : TA} {p pos : Pos} {W : WX} (C : CalX X.prog X.w X.K X.mg X.base x j pn sp) (tk : Takes X W) (hr : Room k X.A) (hj : j ≤ k) (hg : Gl X x) (ha : PA X (e :: es) t) (hdb : (x == ("__debug__" : Str)) = false := by decide)
    (he : starEach (e :: es) X.env = (false, eval e X.env) :: starEach es X.env := by rfl) (hpl : (backTo pos (starEach es X.env)).any (·.1) = false := by rfl) : PE X (.Call (.Name x p) (e :: es) [] pos) (tCallS sp (WE W) t) := by
  obtain ⟨f, fd, G, b, g, kp⟩ := C.ex
  exact pe_callS (G.mono hj) hr hg g kp b (fun σ => passAt tk σ) ha hdb he hpl
theorem at_if {t : TT} {a tw : TS} {D : Ends} {σ : L2.St} {H : Hp} (h : t σ H fun b H1 => if b = true then a { D with nx := tw D } σ H1 else tw D σ H1) : tSeq (tIfS t a tNext) tw D σ H := h
theorem at_retS {sp : Sp} {E : L2.St → XK} {t : TA} {D : Ends} {σ : L2.St} {H : Hp} (h : t σ H fun vs H1 => sp vs H1 D.rt (E σ)) : tRet (tCallS sp E t) D σ H := h
section
variable {C fI : Addr} {fdI : FuncData}
theorem ok_want_state_of (xs : Xs K mg C fI) (FI : FunD K "__init__" "InvalidState.__init__" (defArgs sInit) (defBody sInit) (defScope sInit) [] [] fI fdI) (bI : Binds K fdI ["self", "value"] []) (T : Txt K mg w aS) (F : Stands K mg "want_state_of" s_want_state_of ["kind", "value"])
    (C_is_state_value : Cal P w K mg base "is_state_value" 22 ["kind", "value"] (spIsv 4)) (C_state_as_told : Cal P w K mg base "state_as_told" 5 ["kind", "value"] (spToldS 4)) : CalX P w K mg base "want_state_of" 23 ["kind", "value"] (spTS C) := by
  have nd := sc_want_state_of.nd
  have GI : FnOk P w K mg base CX0 1 fI fdI ["self", "value"] (spIni C) := ok_ini xs FI
  refine F.calX sc_want_state_of (fun vs H Q E h => spTS_len h) fun f cdv A outer s H E hr => ⟨_, (pss_cons (ps_if (pt_not (pt_val (pe_cal C_is_state_value hr (by omega) (by rfl) (pa_cons (pv 0) (pa_cons (pv 1) pa_nil))))) (pss_one (ps_raise rfl (takes_of rfl rfl rfl rfl) (pmk_oex xs.T xs.ini xs.fn GI (hr.mono (by omega)) bI .nil pass0 (by rfl) xs.glo (pa_cons (pv 1) pa_nil)))) pss_nil)
    (pss_one (ps_ret (pe_cal C_state_as_told hr (by omega) (by rfl) (pa_cons (pv 0) (pa_cons (pv 1) pa_nil)))))), fun vs Q h => ?_⟩
  obtain ⟨ps, k, e, al, hd, hk, hdp, hz, he, q1, q2⟩ := h
  have ok := dta_ok (N := N_want_state_of) al hd
  have ok : Ok ps H (L2.start N_want_state_of vs) [some k.data, some e] := ok
  cases hs : isSt k e with
  | true => exact sv_whenF (et_notT (et_B (ev_callIs (ea_two (ev_var rfl) (ev_var rfl)) ⟨_, _, rfl, k, hk, hdp, rfl, he⟩ ((isF_is k e).trans (congrArg PyData.bool hs))))) (sv_ret (ev_callIs (ea_two (ev_var rfl) (ev_var rfl)) ⟨_, _, rfl, k, hk, hdp, rfl, hs, he⟩ (toldF_is k e))) ps _ H _ ok (q1 hs)
  | false =>
    have ht : EvT (tNot (tB (tCall (spIsv 4) [] E0 (tCons (tVar 0) (tCons (tVar 1) tNil))))) [some k.data, some e] true := et_notF (et_B (ev_callIs (ea_two (ev_var rfl) (ev_var rfl)) ⟨_, _, rfl, k, hk, hdp, rfl, he⟩ ((isF_is k e).trans (congrArg PyData.bool hs))))
    refine at_if (ht ps _ H ok _ fun H1 e1 => iteT ?_)
    obtain ⟨v, hv1, hv2⟩ := (ok.mono e1).val 1 e rfl
    refine ⟨v, hv1, by simp, fun a na => ⟨a, v, rfl, upd_same, fun dx ndx ne => ⟨rfl, dx, [("value", v)], upd_same, by rw [upd_ne ne]; exact upd_same, ?_, ?_⟩⟩⟩
    · rw [upd_ne ne] at ndx; exact ndx
    · have nd1 : H1 dx = none := by rw [upd_ne ne] at ndx; exact ndx
      have e2 : Same H1 (upd (del (upd (upd (upd H1 a (exo a C none)) dx (exd dx [("value", v)])) a (exo a C (some dx))) a) dx (.xd [("value", v)])) := fun b o hb => by
        have n1 : b ≠ a := ne_of_none hb na
        have n2 : b ≠ dx := ne_of_none hb nd1
        rw [upd_ne n2, del_ne n1, upd_ne n1, upd_ne n2, upd_ne n1]; exact hb
      exact q2 hs dx _ v _ (e1.trans e2) upd_same rfl (hv2.mono (hid_same e2))
theorem ok_told_state (xs : Xs K mg C fI) (T : Txt K mg w aS) (F : Stands K mg "told_state" s_told_state ["kind", "state"]) (C_want_kind : Cal P w K mg base "want_kind" 7 ["value"] spWant) (C_want_state_of : CalX P w K mg base "want_state_of" 23 ["kind", "value"] (spTS C)) : CalX P w K mg base "told_state" 24 ["kind", "state"] (spTS C) := by
  have nd := sc_told_state.nd
  refine F.calX sc_told_state (fun vs H Q E h => spTS_len h) fun f cdv A outer s H E hr => ⟨_, pss_one (ps_ret (pe_calX (W := fun cls d _ H => E cls d H) C_want_state_of (takes_of rfl rfl rfl rfl) hr (by omega) (by rfl) (pa_cons (pe_cal C_want_kind hr (by omega) (by rfl) (pa_cons (pv 0) pa_nil)) (pa_cons (pv 1) pa_nil)))), fun vs Q h => ?_⟩
  obtain ⟨ps, k, e, al, hd, hk, hdp, hz, he, q1, q2⟩ := h
  have ok : Ok ps H (L2.start N_told_state vs) [some k.data, some e] := dta_ok (N := N_told_state) al hd
  have ha : EvA (tCons (tCall spWant [] E0 (tCons (tVar 0) tNil)) (tCons (tVar 1) tNil)) [some k.data, some e] [k.data, e] := ea_two (ev_callIs (ea_one (ev_var rfl)) ⟨_, rfl, k, hk, hdp, hz, rfl⟩ rfl) (ev_var rfl)
  refine at_retS (ha ps _ H ok _ fun vs2 H1 e1 h1 => ⟨ps, k, e, al_mono e1 al, h1, hk, hdp, hz, he, fun hs v H2 e2 hv => q1 hs v H2 (e1.trans e2) hv, fun hs dd fs v H2 e2 g1 g2 g3 => q2 hs dd fs v H2 (e1.trans e2) g1 g2 g3⟩)
end
end
end Pm
namespace Pm
open PySem PySem.Spec PyProof.Rows L2
section
variable {P : Program} {w : World} {K : PySem.W.Frag} {mg : Str → Option Value} {base : Heap} {aS : Addr}

theorem iteTb {b : Bool} {A B : Prop} (h : b = true) (x : A) : if b = true then A else B := by rw [if_pos h]; exact x
theorem iteFb {b : Bool} {A B : Prop} (h : b = false) (x : B) : if b = true then A else B := by rw [if_neg (by rw [h]; exact Bool.false_ne_true)]; exact x
theorem CDivP_small {i : Int} {m : Nat} (h1 : 1 ≤ m) (h2 : m ≤ 100000) : CDivP i (m : Int) := by
  refine ⟨by omega, ?_⟩
  have hl : (m : Int).natAbs.log2 ≤ 16 := by
    rw [Int.natAbs_natCast]
    have : m.log2 < 17 := (Nat.log2_lt (by omega)).mpr (by omega)
    omega
  unfold Builtin.divisionGoesByPylong
  have : ((if ((m : Int) == 0) = true then 0 else (m : Int).natAbs.log2 / 30 + 1) > 300) = False := by
    apply eq_false
    split <;> omega
  simp only [this, decide_false, Bool.false_and]
section
variable {H : Hp} {σ : L2.St} {p : Addr} {a b : Int}
theorem pot_ix0 {Q : VK} (hp : H p = some (.lst [.int a, .int b])) (hs : σ[0]? = some (some (.ref p))) (q : Q (.int a) H) : tOp (rIx K) (tVar 0) (tC (.int 0)) σ H Q := ⟨.ref p, hs, .inl ⟨p, _, 0, .int a, rfl, rfl, SqL.of hp, atI_nat (j := 0) rfl, q⟩⟩
theorem pot_ix1 {Q : VK} (hp : H p = some (.lst [.int a, .int b])) (hs : σ[0]? = some (some (.ref p))) (q : Q (.int b) H) : tOp (rIx K) (tVar 0) (tC (.int 1)) σ H Q := ⟨.ref p, hs, .inl ⟨p, _, 1, .int b, rfl, rfl, SqL.of hp, atI_nat (j := 1) rfl, q⟩⟩
end
def pDraw (ds : List PyData) : Prop := ∃ m : Nat, ds = [nD m] ∧ 1 ≤ m ∧ m ≤ 100000
def sDraw (ds : List PyData) : DS := fun d => ∃ m r : Nat, ds = [nD m] ∧ r < m ∧ d = nD r
abbrev spDraw : Sp := spQ pDraw sDraw
theorem sDraw_is {m : Nat} {d : PyData} (h : sDraw [nD m] d) : ∃ r < m, d = nD r := by
  obtain ⟨m', r, e, hr, hd⟩ := h
  have e2 : (m : Int) = (m' : Int) := by simpa [nD] using e
  have : m = m' := Int.ofNat_inj.mp e2
  subst this
  exact ⟨r, hr, hd⟩
theorem sw_upd {H : Hp} {p : Addr} {o : HO} : Sw [p] H (upd H p o) := fun x u h => by
  obtain ⟨h1, n⟩ := of_hid h
  refine hid_of ?_ n
  rw [upd_ne (fun z => n (by rw [z]; exact List.mem_singleton.mpr rfl))]; exact h1
abbrev N__law_draw : List Str := ["_law_pot_here", "_law_many", "_law_digit"]
theorem sc__law_draw : FnScope N__law_draw ["_law_pot_here", "_law_many"] (defScope s__law_draw) := ⟨rfl, rfl, rfl, by decide +kernel, rfl, by decide +kernel, by decide +kernel⟩
theorem ok__law_draw (T : Txt K mg w aS) (F : Stands K mg "_law_draw" s__law_draw ["_law_pot_here", "_law_many"]) : Cal P w K mg base "_law_draw" 1 ["_law_pot_here", "_law_many"] spDraw := by
  have nd := sc__law_draw.nd
  refine F.cal sc__law_draw (fun vs H Q E ⟨p, ps, ds, ws, e, mp, pt, al, hd, hp, _⟩ => by obtain ⟨m, e2, _⟩ := hp; rw [e, List.length_cons, hd.length, e2]; rfl) fun f cdv A outer s H E hr => ⟨_, (pss_cons (ps_if (pt_cmpR op_gt (pe_ix (k_ix (K := K) rfl) (pv 0) pe_int (fun _ _ => rfl)) pe_int (nomark _)) (pss_cons (ps_asg (pe_callB call_divmodW (by rfl) T.b_divmod bt_divmod (pa_cons (pe_ix (k_ix (K := K) rfl) (pv 0) pe_int (fun _ _ => rfl)) (pa_cons (pv 1) pa_nil))) (k_gt (n := 2) (K := K) rfl rfl (pgs_cons (pg_sub (pv 0) pe_int set_list) (pgs_cons (pg_name (i := 2) nd rfl (by first | exact Or.inl rfl | exact Or.inr rfl)) pgs_nil))))
        (pss_one (ps_ret (pv 2)))) pss_nil)
        (pss_cons (ps_asg (pe_op op_mod (pe_op op_add (pe_op op_mul (pe_ix (k_ix (K := K) rfl) (pv 0) pe_int (fun _ _ => rfl)) pe_int) pe_int) pe_int) (pg_sub (pv 0) pe_int set_list))
        (pss_one (ps_ret (pe_op op_mod (pe_op op_fdiv (pe_op op_mod (pe_op op_mul (pe_ix (k_ix (K := K) rfl) (pv 0) pe_int (fun _ _ => rfl)) (pe_ix (k_ix (K := K) rfl) (pv 0) pe_int (fun _ _ => rfl))) pe_int) pe_int) (pv 1)))))), fun vs Q h => ?_⟩
  obtain ⟨p, ps, ds, ws, e, mp, ⟨a, b, ha, hb, hb2, hp⟩, al, hd, ⟨m, e2, m1, m2⟩, q⟩ := h
  subst e2
  obtain ⟨v, e3, hv⟩ := one_of hd
  rw [e3, of_int hv] at e
  subst e
  have hm : (0 : Int) < (m : Int) := by omega
  refine pot_ix0 hp rfl ⟨a, 0, rfl, rfl, _, rfl, ?_⟩
  by_cases hpos : 0 < a
  · refine iteTb (decide_eq_true hpos) ?_
    refine pot_ix0 hp rfl ⟨.int (m : Int), rfl, a, (m : Int), rfl, CDivP_small m1 m2, fun t nt => ?_⟩
    have hp2 : upd H t (.tup [.int (a / (m : Int)), .int (a % (m : Int))]) p = some (.lst [.int a, .int b]) := same_upd nt _ _ hp
    refine ⟨t, _, rfl, SqT.of upd_same, rfl, _, _, rfl, .ref p, rfl, p, _, 0, 0, rfl, rfl, hp2, by first | rfl | decide, .int (a % (m : Int)), [], rfl, rfl, .int (a % (m : Int)), rfl, ?_⟩
    have r0 := Int.emod_nonneg a (show (m : Int) ≠ 0 by omega)
    have r1 := Int.emod_lt_of_pos a hm
    refine q (.int (a % (m : Int))) (nD (a % (m : Int)).toNat) _ ⟨m, _, rfl, by omega, rfl⟩ ((Sw.of (same_upd nt)).trans sw_upd) ⟨a / (m : Int), b, Int.ediv_nonneg ha (by omega), hb, hb2, upd_same⟩ ?_
    rw [nD, Int.toNat_of_nonneg r0]
    exact dt_int
  · refine iteFb (decide_eq_false hpos) ?_
    have c0 := Int.emod_nonneg (b * 40692 + 83) (show (2147483399 : Int) ≠ 0 by decide)
    have c1 := Int.emod_lt_of_pos (b * 40692 + 83) (show (0 : Int) < 2147483399 by decide)
    refine pot_ix1 hp rfl ⟨b, 40692, rfl, rfl, .inr ⟨by decide, by decide⟩, _, 83, rfl, rfl, _, 2147483399, rfl, rfl, (show (0 : Int) < 2147483399 by decide), ?_⟩
    refine ⟨.ref p, rfl, p, _, 1, 1, rfl, rfl, hp, by first | rfl | decide, ?_⟩
    dsimp only
    generalize hc : (b * 40692 + 83) % 2147483399 = c at c0 c1 ⊢
    have hp3 : upd H p (.lst ([V.int a, V.int b].set 1 (.int c))) p = some (.lst [.int a, .int c]) := upd_same
    refine pot_ix1 hp3 rfl (pot_ix1 hp3 rfl ⟨c, c, rfl, rfl, .inr ⟨by omega, by omega⟩, _, 2147483323, rfl, rfl, (show (0 : Int) < 2147483323 by decide), _, 17, rfl, rfl, ⟨by decide, by decide⟩, .int (m : Int), rfl, _, (m : Int), rfl, rfl, hm, ?_⟩)
    generalize (c * c % 2147483323 / 17 : Int) = z
    have r0 := Int.emod_nonneg z (show (m : Int) ≠ 0 by omega)
    have r1 := Int.emod_lt_of_pos z hm
    refine q (.int (z % (m : Int))) (nD (z % (m : Int)).toNat) _ ⟨m, _, rfl, by omega, rfl⟩ sw_upd ⟨a, c, ha, c0, by omega, upd_same⟩ ?_
    rw [nD, Int.toNat_of_nonneg r0]
    exact dt_int
def pPick (ds : List PyData) : Prop := ∃ d es, ds = [d] ∧ IsSeq d es ∧ 1 ≤ es.length ∧ es.length ≤ 1000
def sPick (ds : List PyData) : DS := fun c => ∃ d es, ds = [d] ∧ IsSeq d es ∧ c ∈ es
abbrev spPick : Sp := spQ pPick sPick
theorem seq_same {d : PyData} {es fs : List PyData} (h : IsSeq d es) (h' : IsSeq d fs) : es = fs := by cases h <;> cases h' <;> rfl
theorem sPick_is {d : PyData} {es : List PyData} {c : PyData} (hs : IsSeq d es) (h : sPick [d] c) : c ∈ es := by
  obtain ⟨d', fs, e, hs', hc⟩ := h
  have : d = d' := by simpa using e
  subst this
  rw [seq_same hs hs']; exact hc
theorem rv_ixS {d c : PyData} {es : List PyData} {i : Nat} (hs : IsSeq d es) (h : es[i]? = some c) : RvD (rIx K) d (nD i) c := by
  cases hs
  · exact rv_ixL h
  · exact rv_ixT h
abbrev N__law_pick : List Str := ["_law_pot_here", "_law_some"]
theorem sc__law_pick : FnScope N__law_pick ["_law_pot_here", "_law_some"] (defScope s__law_pick) := ⟨rfl, rfl, rfl, by decide +kernel, rfl, by decide +kernel, by decide +kernel⟩
theorem ok__law_pick  (T : Txt K mg w aS) (F : Stands K mg "_law_pick" s__law_pick ["_law_pot_here", "_law_some"]) (C__law_draw : Cal P w K mg base "_law_draw" 1 ["_law_pot_here", "_law_many"] (spDraw))  : Cal P w K mg base "_law_pick" 2 ["_law_pot_here", "_law_some"] (spQ pPick sPick) := by
  have nd := sc__law_pick.nd
  refine F.pot sc__law_pick (fun ds h => ?_) fun f cdv A outer s H E hr => ⟨_, (pss_one (ps_ret (pe_ix (k_ix (K := K) rfl) (pv 1) (pe_cal C__law_draw hr (by omega) (by rfl) (pa_cons (pv 0) (pa_cons (pe_callB (k_len (K := K) rfl) (by rfl) T.b_len bt_len (pa_cons (pv 1) pa_nil)) pa_nil))) (fun _ _ => rfl)))), fun p ds h => ?_⟩
  · obtain ⟨d, es, e, _⟩ := h; rw [e]; rfl
  · obtain ⟨d, es, rfl, hs, l1, l2⟩ := h
    refine svq_ret (evq_op (S1 := fun x => x = d) (S2 := fun x => ∃ r < es.length, x = nD r) (evq_of (ev_var rfl) rfl) (evq_callQ (T := fun ds => ds = [nD es.length]) (eaq_of (ea_one (ev_cb (ea_one (ev_var rfl)) (rc_len hs))) rfl) fun ds e => ⟨⟨es.length, e, l1, by omega⟩, fun d hd => sDraw_is (e ▸ hd)⟩) ?_)
    rintro x y rfl ⟨r, hr, rfl⟩
    exact ⟨es[r], rv_ixS hs (List.getElem?_eq_getElem hr), _, es, rfl, hs, List.getElem_mem hr⟩
end
end Pm
namespace Pm
open PySem PySem.Spec PyProof.Rows L2
section
variable {P : Program} {w : World} {K : PySem.W.Frag} {mg : Str → Option Value} {base : Heap} {aS : Addr}

section
variable {p : Addr} {ρ : Rho} {ω : Om} {te : TE} {E : XK}
theorem evq_draw {m : Nat} (h : EvD te ρ (nD m)) (m1 : 1 ≤ m) (m2 : m ≤ 100000) : EvQ [p] (tCall spDraw [] E (tCons (tVar 0) (tCons te tNil))) ρ ω fun d => ∃ r < m, d = nD r :=
  evq_callQ (T := fun ds => ds = [nD m]) (eaq_of (ea_one h) rfl) fun ds e => ⟨⟨m, e, m1, m2⟩, fun d hd => sDraw_is (e ▸ hd)⟩
theorem evq_pick {d : PyData} {es : List PyData} (h : EvD te ρ d) (hs : IsSeq d es) (l1 : 1 ≤ es.length) (l2 : es.length ≤ 1000) : EvQ [p] (tCall spPick [] E (tCons (tVar 0) (tCons te tNil))) ρ ω fun c => c ∈ es :=
  evq_callQ (T := fun ds => ds = [d]) (eaq_of (ea_one h) rfl) fun ds e => ⟨⟨d, es, e, hs, l1, l2⟩, fun c hc => sPick_is hs (e ▸ hc)⟩
end
theorem svq_parQO {ls : List Addr} {ta tb : TE} {ρ : Rho} {ω : Om} {R S : DS} {N : Rho → Om → Prop} {tw : TS} {i j : Nat} {es : List PyData} (ha : EvQ ls ta ρ ω S) (hb : EvN tb ρ es) (hij : i ≠ j) (lj : j < ρ.length) (hi : ls = [] ∨ i ≠ 0) (hj : ls = [] ∨ j ≠ 0)
    (fi : ∀ e ∈ ω, e.1 ≠ i) (fj : ∀ e ∈ ω, e.1 ≠ j) (hn : ∀ d, S d → SvQ ls tw ((ρ.set i (some d)).set j none) ((j, es) :: ω) R N) : SvQ ls (tSeq (tPar i j (tCons ta (tCons tb tNil))) tw) ρ ω R N := fun ps H0 qs H σ D ok q1 q2 =>
  ha ps H0 qs H σ ok _ fun v d H1 sd g1 ok1 hv => hb _ σ H1 ok1.ok _ fun p2 ys H2 np2 e2 hp2 hy => by
    refine ⟨v, .ref p2, rfl, ?_⟩
    have ok2 := (ok1.setv hv hi fi).seto (i := j) np2 e2 hp2 hy (by rw [List.length_set]; exact lj) hj fj
    refine hn d sd ps H0 (p2 :: qs) H2 _ D ok2 q1 fun qs2 σ2 H3 ρ2 ω2 n g ok3 => q2 qs2 σ2 H3 ρ2 ω2 n
      ((g1.trans (⟨hid_same e2, fun q m => ?_, (Go.of (ps := ps) (qs := qs) e2).al⟩ : Go ps qs H1 (p2 :: qs) H2)).trans g) ok3
    rcases List.mem_cons.mp m with z | m
    · exact .inr (by rw [z]; exact np2)
    · exact .inl m
abbrev spTables : Sp := spF (fun ds => ds = []) fun _ => .list (okTabs.map rowsD)
theorem ev_nats {ρ : Rho} {tr : TA} {r : List Nat} (h : EvA tr ρ (r.map nD)) (hl : r.length ≤ 1000) : EvD (tLst tr) ρ (rowD r) := EvN.toD (en_lst h (by rw [List.length_map]; omega))
theorem ev_rows {ρ : Rho} {tr : TA} {r : List (List Nat)} (h : EvA tr ρ (r.map rowD)) (hl : r.length ≤ 1000) : EvD (tLst tr) ρ (rowsD r) := EvN.toD (en_lst h (by rw [List.length_map]; omega))
abbrev N__law_tables : List Str := ["_law_rows", "_law_diamond", "_law_pentagon"]
theorem sc__law_tables : FnScope N__law_tables [] (defScope s__law_tables) := ⟨rfl, rfl, rfl, by decide +kernel, rfl, by decide +kernel, by decide +kernel⟩
theorem ok__law_tables  (T : Txt K mg w aS) (F : Stands K mg "_law_tables" s__law_tables [])   : Cal P w K mg base "_law_tables" 1 [] (spF (fun ds => ds = []) (fun _ => .list (okTabs.map rowsD))) := by
  have nd := sc__law_tables.nd
  refine F.own sc__law_tables (fun ds h => ?_) fun f cdv A outer s H E hr => ⟨_, (pss_cons (ps_set (i := 0) nd rfl (by first | exact Or.inl rfl | exact Or.inr rfl) (pe_lst (pa_cons (pe_lst (pa_cons (pe_lst (pa_cons pe_int pa_nil)) pa_nil)) (pa_cons (pe_lst (pa_cons (pe_lst (pa_cons pe_int (pa_cons pe_int pa_nil))) (pa_cons (pe_lst (pa_cons pe_int (pa_cons pe_int pa_nil))) pa_nil))) (pa_cons (pe_lst (pa_cons (pe_lst (pa_cons pe_int (pa_cons pe_int (pa_cons pe_int pa_nil)))) (pa_cons (pe_lst (pa_cons pe_int (pa_cons pe_int (pa_cons pe_int pa_nil)))) (pa_cons (pe_lst (pa_cons pe_int (pa_cons pe_int (pa_cons pe_int pa_nil)))) pa_nil)))) pa_nil)))))
        (pss_cons (ps_expr (pe_bm PySem.F.plainAttrs_list PySem.F.slot_list_append PySem.F.type_list_append mt_append (pv 0) (pa_cons (pe_lst (pa_cons (pe_lst (pa_cons pe_int (pa_cons pe_int (pa_cons pe_int (pa_cons pe_int pa_nil))))) (pa_cons (pe_lst (pa_cons pe_int (pa_cons pe_int (pa_cons pe_int (pa_cons pe_int pa_nil))))) (pa_cons (pe_lst (pa_cons pe_int (pa_cons pe_int (pa_cons pe_int (pa_cons pe_int pa_nil))))) (pa_cons (pe_lst (pa_cons pe_int (pa_cons pe_int (pa_cons pe_int (pa_cons pe_int pa_nil))))) pa_nil))))) pa_nil)))
        (pss_cons (ps_set (i := 1) nd rfl (by first | exact Or.inl rfl | exact Or.inr rfl) (pe_lst (pa_cons (pe_lst (pa_cons pe_int (pa_cons pe_int (pa_cons pe_int (pa_cons pe_int (pa_cons pe_int pa_nil)))))) (pa_cons (pe_lst (pa_cons pe_int (pa_cons pe_int (pa_cons pe_int (pa_cons pe_int (pa_cons pe_int pa_nil)))))) (pa_cons (pe_lst (pa_cons pe_int (pa_cons pe_int (pa_cons pe_int (pa_cons pe_int (pa_cons pe_int pa_nil)))))) (pa_cons (pe_lst (pa_cons pe_int (pa_cons pe_int (pa_cons pe_int (pa_cons pe_int (pa_cons pe_int pa_nil)))))) (pa_cons (pe_lst (pa_cons pe_int (pa_cons pe_int (pa_cons pe_int (pa_cons pe_int (pa_cons pe_int pa_nil)))))) pa_nil)))))))
        (pss_cons (ps_set (i := 2) nd rfl (by first | exact Or.inl rfl | exact Or.inr rfl) (pe_lst (pa_cons (pe_lst (pa_cons pe_int (pa_cons pe_int (pa_cons pe_int (pa_cons pe_int (pa_cons pe_int pa_nil)))))) (pa_cons (pe_lst (pa_cons pe_int (pa_cons pe_int (pa_cons pe_int (pa_cons pe_int (pa_cons pe_int pa_nil)))))) (pa_cons (pe_lst (pa_cons pe_int (pa_cons pe_int (pa_cons pe_int (pa_cons pe_int (pa_cons pe_int pa_nil)))))) (pa_cons (pe_lst (pa_cons pe_int (pa_cons pe_int (pa_cons pe_int (pa_cons pe_int (pa_cons pe_int pa_nil)))))) (pa_cons (pe_lst (pa_cons pe_int (pa_cons pe_int (pa_cons pe_int (pa_cons pe_int (pa_cons pe_int pa_nil)))))) pa_nil)))))))
        (pss_one (ps_ret (pe_op op_cat (pv 0) (pe_lst (pa_cons (pv 1) (pa_cons (pv 2) pa_nil)))))))))), fun ds h => ?_⟩
  · rw [h]; rfl
  · subst h
    show SvQ [] _ [none, none, none] [] _ _
    refine svq_own (ds := [rowsD [[0]], rowsD [[0, 1], [1, 1]], rowsD [[0, 1, 2], [1, 1, 2], [2, 2, 2]]]) (en_lst (by repeat first | exact ea_nil | refine ea_cons ?_ ?_ | exact ev_int | refine EvN.toD (en_lst ?_ ?_) | simp) (by simp)) (by simp) (.inl rfl) (fun _ m => nomatch m) ?_
    refine svq_seq1 (svq_app1 (k := 0) (i := 0) (d := rowsD [[0, 1, 2, 3], [1, 1, 3, 3], [2, 3, 2, 3], [3, 3, 3, 3]]) rfl (by repeat first | exact ea_nil | refine ea_cons ?_ ?_ | exact ev_int | refine EvN.toD (en_lst ?_ ?_) | simp) (by simp) ⟨rfl, rfl⟩) ?_
    refine svq_asg (S := fun d => d = rowsD [[0, 1, 2, 3, 4], [1, 1, 4, 4, 4], [2, 4, 2, 4, 4], [3, 4, 4, 3, 4], [4, 4, 4, 4, 4]]) (evq_of (by repeat first | exact ea_nil | refine ea_cons ?_ ?_ | exact ev_int | refine EvN.toD (en_lst ?_ ?_) | simp) rfl) (.inl rfl) (by simp) fun d hd => ?_
    subst hd
    refine svq_asg (S := fun d => d = rowsD [[0, 1, 2, 3, 4], [1, 1, 4, 3, 4], [2, 4, 2, 4, 4], [3, 3, 4, 3, 4], [4, 4, 4, 4, 4]]) (evq_of (by repeat first | exact ea_nil | refine ea_cons ?_ ?_ | exact ev_int | refine EvN.toD (en_lst ?_ ?_) | simp) rfl) (.inl rfl) (by simp) fun d hd => ?_
    subst hd
    exact svq_retO (EvN.toD (en_cat (ev_var rfl) (EvN.toD (en_lst (ea_two (ev_var rfl) (ev_var rfl)) (by simp))) (by simp))) rfl
def tiesAt : Nat → List (List (Nat × Nat))
  | 0 => [[]]
  | i + 1 => (tiesAt i).flatMap fun t => t :: (List.range (i + 1)).map fun lo => t ++ [(lo, i + 1)]
theorem ties_fin : ∀ n ∈ List.range 4, ∀ t ∈ tiesAt (n - 1), (n, t) ∈ okTops := by decide +kernel
theorem ties_len : ∀ {i : Nat} {t : List (Nat × Nat)}, t ∈ tiesAt i → t.length ≤ i
  | 0, t, h => by simp [tiesAt] at h; simp [h]
  | i + 1, t, h => by
    simp only [tiesAt, List.mem_flatMap] at h
    obtain ⟨u, hu, h⟩ := h
    have := ties_len hu
    rcases List.mem_cons.mp h with h | h
    · rw [h]; omega
    · obtain ⟨lo, _, rfl⟩ := List.mem_map.mp h
      simp; omega
theorem ties_same {i : Nat} {t : List (Nat × Nat)} (h : t ∈ tiesAt i) : t ∈ tiesAt (i + 1) := by
  simp only [tiesAt, List.mem_flatMap]
  exact ⟨t, h, List.mem_cons_self⟩
theorem ties_more {i lo : Nat} {t : List (Nat × Nat)} (h : t ∈ tiesAt i) (hl : lo < i + 1) : t ++ [(lo, i + 1)] ∈ tiesAt (i + 1) := by
  simp only [tiesAt, List.mem_flatMap]
  exact ⟨t, h, List.mem_cons_of_mem _ (List.mem_map.mpr ⟨lo, List.mem_range.mpr hl, rfl⟩)⟩
def sKd (n : Nat) (_ : List PyData) : DS := fun d => ∃ k : Kd, k.ok = true ∧ k.dep ≤ n ∧ k.size + 1 ≤ 2 ^ n ∧ d = k.data
abbrev spLeaf : Sp := spQ (fun ds => ds = []) (sKd 1)
abbrev N__law_leaf : List Str := ["_law_pot_here", "_law_way", "_law_many", "_law_ties", "_law_high", "_law_low"]
theorem sc__law_leaf : FnScope N__law_leaf ["_law_pot_here"] (defScope s__law_leaf) := ⟨rfl, rfl, rfl, by decide +kernel, rfl, by decide +kernel, by decide +kernel⟩
theorem ok__law_leaf  (T : Txt K mg w aS) (F : Stands K mg "_law_leaf" s__law_leaf ["_law_pot_here"]) (C__law_draw : Cal P w K mg base "_law_draw" 1 ["_law_pot_here", "_law_many"] (spDraw)) (C__law_pick : Cal P w K mg base "_law_pick" 2 ["_law_pot_here", "_law_some"] (spPick)) (C__law_tables : Cal P w K mg base "_law_tables" 1 [] (spTables))  : Cal P w K mg base "_law_leaf" 3 ["_law_pot_here"] (spQ (fun ds => ds = []) (sKd 1)) := by
  have nd := sc__law_leaf.nd
  refine F.pot sc__law_leaf (fun ds h => ?_) fun f cdv A outer s H E hr => ⟨_, (pss_cons (ps_set (i := 1) nd rfl (by first | exact Or.inl rfl | exact Or.inr rfl) (pe_cal C__law_draw hr (by omega) (by rfl) (pa_cons (pv 0) (pa_cons pe_int pa_nil))))
        (pss_cons (ps_if (pt_cmpR op_eq (pv 1) pe_int (nomark _)) (pss_one (ps_ret (pe_tup (pa_cons pe_str pa_nil)))) pss_nil)
        (pss_cons (ps_if (pt_cmpR op_eq (pv 1) pe_int (nomark _)) (pss_one (ps_ret (pe_tup (pa_cons pe_str (pa_cons (pe_op op_add pe_int (pe_cal C__law_draw hr (by omega) (by rfl) (pa_cons (pv 0) (pa_cons pe_int pa_nil)))) pa_nil))))) pss_nil)
        (pss_cons (ps_if (pt_cmpR op_eq (pv 1) pe_int (nomark _)) (pss_one (ps_ret (pe_tup (pa_cons pe_str (pa_cons (pe_cal C__law_pick hr (by omega) (by rfl) (pa_cons (pv 0) (pa_cons (pe_cal0 C__law_tables hr (by omega) (by rfl)) pa_nil))) pa_nil))))) pss_nil)
        (pss_cons (ps_par (i := 2) (j := 3) (by rfl) nd rfl rfl (by decide) rfl rfl (pa_cons (pe_cal C__law_draw hr (by omega) (by rfl) (pa_cons (pv 0) (pa_cons pe_int pa_nil))) (pa_cons (pe_lst pa_nil) pa_nil)) (by rfl))
        (pss_cons (ps_for PassesOwn.never rfl (pi_range2 (by rfl) T.b_range (pa_cons pe_int (pa_cons (pv 2) pa_nil))) (pg_name (i := 4) nd rfl (by first | exact Or.inl rfl | exact Or.inr rfl)) (pss_cons (ps_set (i := 5) nd rfl (by first | exact Or.inl rfl | exact Or.inr rfl) (pe_cal C__law_draw hr (by omega) (by rfl) (pa_cons (pv 0) (pa_cons (pe_op op_add (pv 4) pe_int) pa_nil))))
        (pss_one (ps_if (pt_cmpR op_lt (pv 5) (pv 4) (nomark _)) (pss_one (ps_expr (pe_bm PySem.F.plainAttrs_list PySem.F.slot_list_append PySem.F.type_list_append mt_append (pv 3) (pa_cons (pe_tup (pa_cons (pv 5) (pa_cons (pv 4) pa_nil))) pa_nil)))) pss_nil))))
        (pss_one (ps_ret (pe_tup (pa_cons pe_str (pa_cons (pv 2) (pa_cons (pv 3) pa_nil)))))))))))), fun p ds h => ?_⟩
  · rw [h]; rfl
  · subst h
    show SvQ [p] _ [none, none, none, none, none, none] [] _ _
    refine svq_asg (evq_draw (m := 4) ev_int (by decide) (by decide)) (.inr (by decide)) (by simp) fun d ⟨r, hr, e⟩ => ?_
    subst e
    have W : ∀ (z : Nat) b, decide (r = z) = b → EtQ [p] (tTest (tOp rEq (tVar 1) (tC (.int (z : Int))))) [none, some (nD r), none, none, none, none] [] fun c => c = b := fun z b e => etq_of (et_test (ev_op (ev_var rfl) ev_int rv_eqI)) (by rw [← e, eqN]; by_cases h : r = z <;> simp [h])
    by_cases h0 : r = 0
    · refine svq_when (W 0 true (decide_eq_true h0)) (fun _ => svq_stop (svq_ret (evq_of (ev_tup (ea_one ev_str) (by simp)) ⟨.count, rfl, by decide, by decide, rfl⟩))) (fun z => nomatch z)
    refine svq_when (W 0 false (decide_eq_false h0)) (fun z => nomatch z) fun _ => ?_
    by_cases h1 : r = 1
    · refine svq_when (W 1 true (decide_eq_true h1)) (fun _ => svq_stop (svq_ret (evq_tup (T := fun ds => ∃ m < 3, ds = [.str "row", nD (m + 1)]) (eaq_cons (S := fun d => d = .str "row") (evq_of ev_str rfl) fun d hd => eaq_one (evq_op (S1 := fun d => d = .int 1) (evq_of ev_int rfl) (evq_draw (m := 3) ev_int (by decide) (by decide)) ?_)) (fun ds ⟨m, _, e⟩ => by rw [e]; simp) (fun ds ⟨m, hm, e⟩ => ⟨.row (m + 1), by simp [Kd.ok]; omega, by simp [Kd.dep], by simp [Kd.size], by rw [e]; rfl⟩)))) (fun z => nomatch z)
      rintro x y rfl ⟨m, hm, rfl⟩
      exact ⟨_, rv_I, m, hm, by rw [hd]; simp [nD]; omega⟩
    refine svq_when (W 1 false (decide_eq_false h1)) (fun z => nomatch z) fun _ => ?_
    by_cases h2 : r = 2
    · refine svq_when (W 2 true (decide_eq_true h2)) (fun _ => svq_stop (svq_ret (evq_tup (T := fun ds => ∃ t ∈ okTabs, ds = [.str "table", rowsD t]) (eaq_cons (S := fun d => d = .str "table") (evq_of ev_str rfl) fun d hd => eaq_one (evq_imp (evq_pick (d := .list (okTabs.map rowsD)) (ev_callIs ea_nil rfl rfl) (.l _) (by decide) (by decide)) ?_)) (fun ds ⟨m, _, e⟩ => by rw [e]; simp) (fun ds ⟨t, ht, e⟩ => ⟨.tab t, decide_eq_true ht, by simp [Kd.dep], by simp [Kd.size], by rw [e]; rfl⟩)))) (fun z => nomatch z)
      intro c hc
      obtain ⟨t, ht, rfl⟩ := List.mem_map.mp hc
      exact ⟨t, ht, by rw [hd]⟩
    refine svq_when (W 2 false (decide_eq_false h2)) (fun z => nomatch z) fun _ => ?_
    refine svq_parQO (es := []) (evq_draw (m := 4) ev_int (by decide) (by decide)) (en_lst ea_nil (by decide)) (by decide) (by simp) (.inr (by decide)) (.inr (by decide)) (by simp) (by simp) fun d ⟨n, hn, e⟩ => ?_
    subst e
    show SvQ [p] _ [none, some (nD r), some (nD n), none, none, none] [(3, [])] _ _
    have src : IsD (iRng2 (tCons (tC (.int 1)) (tCons (tVar 2) tNil))) [none, some (nD r), some (nD n), none, none, none] ((List.range (n - 1)).map fun (i : Nat) => PyData.int (1 + (i : Int))) := is_range2 (lo := 1) (n := n) (ea_two ev_int (ev_var rfl)) (by omega) (by decide)
    refine svq_seq (N := fun a b => ∃ t ∈ tiesAt (n - 1), a = [none, some (nD r), some (nD n), none, none, none] ∧ b = [(3, t.map tieD)]) (svq_for (vs := [4]) (List.range (n - 1)) (fun (i : Nat) => PyData.int (1 + (i : Int))) (fun i a b => ∃ t ∈ tiesAt i, a = [none, some (nD r), some (nD n), none, none, none] ∧ b = [(3, t.map tieD)]) (fun i ρ => ρ.set 4 (some (.int (1 + (i : Int))))) src ⟨[], by simp [tiesAt], rfl, rfl⟩
      (fun i x a b hx ⟨t, ht, ea, eb⟩ => ⟨gt_name (by decide), by rw [eb]; simp⟩) (.inr (by decide)) (fun i x a b hx ⟨t, ht, ea, eb⟩ => ?_) (fun a b ⟨t, ht, ea, eb⟩ => ⟨t, by rwa [List.length_range] at ht, ea, eb⟩)) fun a b ⟨t, ht, ea, eb⟩ => ?_
    · subst ea eb
      have hxi : x = i := by
        obtain ⟨l, g⟩ := List.getElem?_eq_some_iff.mp hx
        rw [List.getElem_range] at g; exact g.symm
      subst hxi
      have hxn : x < n - 1 := by
        obtain ⟨l, g⟩ := List.getElem?_eq_some_iff.mp hx
        rwa [List.length_range] at l
      have htl := ties_len ht
      refine svq_asg (evq_draw (m := x + 2) ((ev_op (ev_var rfl) ev_int rv_I).is (by simp [nD]; omega)) (by omega) (by omega)) (.inr (by decide)) (by simp) fun d ⟨lo, hlo, e⟩ => ?_
      subst e
      show SvQ [p] _ [none, some (nD r), some (nD n), none, some (.int (1 + (x : Int))), some (nD lo)] [(3, t.map tieD)] _ _
      refine svq_if (B := fun b => b = decide ((lo : Int) < 1 + (x : Int))) (etq_of (et_test (ev_op (ev_var rfl) (ev_var rfl) rv_B)) rfl) (fun hb => ?_) fun hb => ?_
      · have hlt : lo < x + 1 := by have := of_decide_eq_true hb.symm; omega
        refine svq_imp (svq_less (ρ0 := [none, some (nD r), some (nD n), none, none, none]) (ω' := [(3, (t ++ [(lo, x + 1)]).map tieD)]) (svq_app1 (k := 0) (i := 3) (d := tieD (lo, x + 1)) rfl ((ev_tup (ea_two (ev_var rfl) (ev_var rfl)) (by simp)).is (by simp [tieD, nD]; omega)) (by rw [List.length_map]; omega) ⟨(by (repeat first | exact Rle.nil | refine Rle.same ?_ | refine Rle.drop ?_)), by simp⟩)) (fun _ h => h) fun a b ⟨ea, eb⟩ => ⟨_, ties_more ht hlt, ea, eb⟩
      · exact svq_imp (svq_less (ρ0 := [none, some (nD r), some (nD n), none, none, none]) (ω' := [(3, t.map tieD)]) (svq_next ⟨(by (repeat first | exact Rle.nil | refine Rle.same ?_ | refine Rle.drop ?_)), rfl⟩)) (fun _ h => h) fun a b ⟨ea, eb⟩ => ⟨_, ties_same ht, ea, eb⟩
    · subst ea eb
      refine svq_freeze (svq_ret (evq_of (ev_tup (ea_cons ev_str (ea_two (ev_var rfl) (ev_var rfl))) (by simp)) ⟨.tops n t, decide_eq_true (ties_fin n (List.mem_range.mpr hn) t ht), by simp [Kd.dep], by simp [Kd.size], rfl⟩))
def pDep (n : Nat) (ds : List PyData) : Prop := ∃ m : Nat, 1 ≤ m ∧ m ≤ n ∧ ds = [nD m]
def sKdU (ds : List PyData) : DS := fun d => ∃ m : Nat, ds = [nD m] ∧ sKd m [] d
theorem sKdU_is {m : Nat} {d : PyData} (h : sKdU [nD m] d) : sKd m [] d := by
  obtain ⟨m', e, hd⟩ := h
  have e2 : (m : Int) = (m' : Int) := by simpa [nD] using e
  rw [Int.ofNat_inj.mp e2]; exact hd
abbrev spKind (n : Nat) : Sp := spQ (pDep n) sKdU
theorem Stands.noneQ {x : Str} {st : Stmt} {N pn : List Str} {pre : List PyData → Prop} {S' : List PyData → DS} (F : Stands K mg x st pn) (S : FnScope N pn (defScope st)) (no : ∀ ds, ¬ pre ds) : Cal P w K mg base x 1 pn (spQ pre S') := by
  refine F.cal S (fun vs H Q E ⟨p, ps, ds, ws, _, _, _, _, _, hp, _⟩ => (no ds hp).elim) fun f cdv A outer s H E hr => ?_
  obtain ⟨t, h⟩ := pss_any (X := (cxOf CX0 P w K mg base N x (defScope st) f cdv A outer s H E).nox) (defBody st)
  exact ⟨t, h, fun vs Q ⟨p, ps, ds, ws, _, _, _, _, _, hp, _⟩ => (no ds hp).elim⟩
abbrev kWords : List Str := ["leaf", "map", "pair", "later", "above"]
abbrev N__law_kind : List Str := ["_law_pot_here", "_law_depth", "_law_word", "_law_first"]
theorem sc__law_kind : FnScope N__law_kind ["_law_pot_here", "_law_depth"] (defScope s__law_kind) := ⟨rfl, rfl, rfl, by decide +kernel, rfl, by decide +kernel, by decide +kernel⟩
theorem ok__law_kind (T : Txt K mg w aS) (F : Stands K mg "_law_kind" s__law_kind ["_law_pot_here", "_law_depth"]) (C__law_pick : Cal P w K mg base "_law_pick" 2 ["_law_pot_here", "_law_some"] spPick) (C__law_leaf : Cal P w K mg base "_law_leaf" 3 ["_law_pot_here"] spLeaf) : ∀ n, n ≤ 100 → Cal P w K mg base "_law_kind" (n + 3) ["_law_pot_here", "_law_depth"] (spKind n)
  | 0, _ => (F.noneQ sc__law_kind fun ds ⟨m, _, _, _⟩ => by omega).up (by omega)
  | N + 1, n100 => by
    have C__law_kind := ok__law_kind T F C__law_pick C__law_leaf N (by omega)
    have nd := sc__law_kind.nd
    refine F.pot sc__law_kind (fun ds ⟨m, _, _, h⟩ => by rw [h]; rfl) fun f cdv A outer s H E hr => ⟨_, (pss_cons (ps_set (i := 2) nd rfl (by first | exact Or.inl rfl | exact Or.inr rfl) pe_str)
        (pss_cons (ps_if (pt_cmpR op_gt (pv 1) pe_int (nomark _)) (pss_one (ps_set (i := 2) nd rfl (by first | exact Or.inl rfl | exact Or.inr rfl) (pe_cal C__law_pick hr (by omega) (by rfl) (pa_cons (pv 0) (pa_cons (pe_lst (pa_cons pe_str (pa_cons pe_str (pa_cons pe_str (pa_cons pe_str (pa_cons pe_str pa_nil)))))) pa_nil))))) pss_nil)
        (pss_cons (ps_if (pt_cmpR op_eq (pv 2) pe_str (nomark _)) (pss_one (ps_ret (pe_cal C__law_leaf hr (by omega) (by rfl) (pa_cons (pv 0) pa_nil)))) pss_nil)
        (pss_cons (ps_set (i := 3) nd rfl (by first | exact Or.inl rfl | exact Or.inr rfl) (pe_cal C__law_kind hr (by omega) (by rfl) (pa_cons (pv 0) (pa_cons (pe_op op_sub (pv 1) pe_int) pa_nil))))
        (pss_one (ps_ret (pe_ifExp (pt_cmpR op_eq (pv 2) pe_str (nomark _)) (pe_tup (pa_cons (pv 2) (pa_cons (pv 3) pa_nil))) (pe_tup (pa_cons (pv 2) (pa_cons (pv 3) (pa_cons (pe_cal C__law_kind hr (by omega) (by rfl) (pa_cons (pv 0) (pa_cons (pe_op op_sub (pv 1) pe_int) pa_nil))) pa_nil))))))))))), fun p ds h => ?_⟩
    obtain ⟨m, m1, mn, rfl⟩ := h
    obtain ⟨n, rfl⟩ : ∃ n, m = n + 1 := ⟨m - 1, by omega⟩
    have nN : n ≤ N := by omega
    show SvQ [p] _ [none, some (nD (n + 1)), none, none] [] _ _
    refine svq_asg (S := fun d => d = .str "leaf") (evq_of ev_str rfl) (.inr (by decide)) (by simp) fun d hd => ?_
    subst hd
    refine svq_seq (N := fun a b => ∃ wd ∈ kWords, (n = 0 → wd = "leaf") ∧ a = [none, some (nD (n + 1)), some (.str wd), none] ∧ b = []) (svq_if (B := fun b => b = decide ((1 : Int) < ((n + 1 : Nat) : Int))) (etq_of (et_test (ev_op (ev_var rfl) ev_int rv_B)) rfl) (fun hb => svq_set (evq_pick (d := .list (kWords.map .str)) (es := kWords.map .str) (EvN.toD (en_lst (ea_cons ev_str (ea_cons ev_str (ea_cons ev_str (ea_two ev_str ev_str)))) (by simp))) (.l _) (by simp) (by simp)) (.inr (by decide)) (by simp) fun c hc => ?_) fun hb => svq_next ⟨"leaf", by decide +kernel, fun _ => rfl, rfl, rfl⟩) fun a b ⟨wd, hw, h0, ea, eb⟩ => ?_
    · obtain ⟨wd, hw, rfl⟩ := List.mem_map.mp hc
      have := of_decide_eq_true hb.symm
      exact ⟨wd, hw, fun z => by omega, rfl, rfl⟩
    subst ea eb
    refine svq_when (B := fun b => b = decide (wd = "leaf")) (etq_of (et_test (ev_op (ev_var rfl) ev_str rv_eqS)) rfl) (fun hb => svq_stop (svq_ret (evq_callQ (T := fun ds => ds = []) (eaq_nil rfl) fun ds e => ⟨e, fun d ⟨k, k1, k2, k3, k4⟩ => ⟨n + 1, rfl, k, k1, by omega, Nat.le_trans k3 (Nat.pow_le_pow_right (by decide) (by omega)), k4⟩⟩))) fun hb => ?_
    have hnl : wd ≠ "leaf" := of_decide_eq_false hb.symm
    have n1 : 1 ≤ n := by
      rcases Nat.eq_zero_or_pos n with z | z
      · exact absurd (h0 z) hnl
      · exact z
    have rc1 : ∀ ρ ω, EvD (tVar 1) ρ (nD (n + 1)) → EvQ [p] (tCall (spKind N) [] E0 (tCons (tVar 0) (tCons (tOp (rI0 fun i j => .int (i - j)) (tVar 1) (tC (.int 1))) tNil))) ρ ω (sKd n []) := fun ρ ω h => evq_callQ (T := fun ds => ds = [nD n]) (eaq_of (ea_one ((ev_op h ev_int rv_I).is (by simp [nD]))) rfl) fun ds e => ⟨⟨n, n1, nN, e⟩, fun d hd => sKdU_is (e ▸ hd)⟩
    refine svq_asg (rc1 _ _ (ev_var rfl)) (.inr (by decide)) (by simp) fun d ⟨a, a1, a2, a3, ed⟩ => ?_
    subst ed
    show SvQ [p] _ [none, some (nD (n + 1)), some (.str wd), some a.data] [] _ _
    have e2 : 2 ^ (n + 1) = 2 * 2 ^ n := by rw [Nat.pow_succ]; omega
    refine svq_ret (evq_if (B := fun b => b = decide (wd = "map")) (etq_of (et_test (ev_op (ev_var rfl) ev_str rv_eqS)) rfl) (fun hb => evq_of (ev_tup (ea_two (ev_var rfl) (ev_var rfl)) (by simp)) ⟨n + 1, rfl, .map a, a1, by simp only [Kd.dep]; omega, by simp only [Kd.size]; omega, by rw [of_decide_eq_true hb.symm]; rfl⟩) fun hb => ?_)
    have hnm : wd ≠ "map" := of_decide_eq_false hb.symm
    refine evq_tup (T := fun ds => ∃ b : Kd, b.ok = true ∧ b.dep ≤ n ∧ b.size + 1 ≤ 2 ^ n ∧ ds = [.str wd, a.data, b.data]) (eaq_cons (S := fun d => d = .str wd) (evq_of (ev_var rfl) rfl) fun d hd => eaq_cons (S := fun d => d = a.data) (evq_of (ev_var rfl) rfl) fun d2 hd2 => eaq_one (evq_imp (rc1 _ _ (ev_var rfl)) fun c ⟨b, b1, b2, b3, eb⟩ => ⟨b, b1, b2, b3, by rw [hd, hd2, eb]⟩)) (fun ds ⟨b, _, _, _, e⟩ => by rw [e]; simp) fun ds ⟨b, b1, b2, b3, e⟩ => ?_
    subst e
    have ok2 : (a.ok && b.ok) = true := by rw [a1, b1]; rfl
    have w3 : wd = "pair" ∨ wd = "later" ∨ wd = "above" := by
      simp only [List.mem_cons, List.not_mem_nil, or_false] at hw
      rcases hw with h | h | h | h | h
      · exact absurd h hnl
      · exact absurd h hnm
      · exact .inl h
      · exact .inr (.inl h)
      · exact .inr (.inr h)
    rcases w3 with rfl | rfl | rfl
    · exact ⟨n + 1, rfl, .two false a b, ok2, by simp only [Kd.dep]; omega, by simp only [Kd.size]; omega, rfl⟩
    · exact ⟨n + 1, rfl, .two true a b, ok2, by simp only [Kd.dep]; omega, by simp only [Kd.size]; omega, rfl⟩
    · exact ⟨n + 1, rfl, .above a b, ok2, by simp only [Kd.dep]; omega, by simp only [Kd.size]; omega, rfl⟩
end
end Pm
namespace Pm
open PySem PySem.Spec PyProof.Rows L2
section
variable {P : Program} {w : World} {K : PySem.W.Frag} {mg : Str → Option Value} {base : Heap} {aS : Addr}

/-- a drawn state -/
structure Dr (k : Kd) (d : PyData) : Prop where
  s : isSt k d = true
  t : told k d = d
  f : fine d = true
  w : wt d + 45 ≤ 90 * 2 ^ (k.dep - 1)
  d : d.depth ≤ 2 * k.dep
def sSt (n : Nat) (ds : List PyData) : DS := fun d => ∃ k : Kd, k.ok = true ∧ k.dep ≤ n ∧ ds = [k.data] ∧ Dr k d
abbrev spState (n : Nat) : Sp := spQ (p1 (pK1 n)) (sSt n)
theorem data_inj {a b : Kd} (h : a.data = b.data) : a = b := by rw [← kindOf_data a, ← kindOf_data b, h]
theorem sSt_is {n : Nat} {k : Kd} {d : PyData} (h : sSt n [k.data] d) : Dr k d := by
  obtain ⟨k', _, _, e, hd⟩ := h
  have : k.data = k'.data := (List.cons.inj e).1
  rw [data_inj this]; exact hd
theorem svq_whenT {ls : List Addr} {t : TT} {ts tw : TS} {ρ : Rho} {ω : Om} {R : DS} {N : Rho → Om → Prop} (h : EtQ ls t ρ ω fun c => c = true) (h1 : SvQ ls ts ρ ω R fun _ _ => False) : SvQ ls (tSeq (tIfS t ts tNext) tw) ρ ω R N := svq_when h (fun _ => svq_stop h1) fun z => nomatch z
theorem svq_whenF {ls : List Addr} {t : TT} {ts tw : TS} {ρ : Rho} {ω : Om} {R : DS} {N : Rho → Om → Prop} (h : EtQ ls t ρ ω fun c => c = false) (h1 : SvQ ls tw ρ ω R N) : SvQ ls (tSeq (tIfS t ts tNext) tw) ρ ω R N := svq_when h (fun z => nomatch z) fun _ => h1
theorem dr_pos (k : Kd) : 90 ≤ 90 * 2 ^ (k.dep - 1) := by have := Nat.one_le_two_pow (n := k.dep - 1); omega
theorem Dr.mk' {k : Kd} {d : PyData} {n : Nat} (s : isSt k d = true) (t : told k d = d) (m : Sm n (2 * k.dep) d) (h : n + 45 ≤ 90 * 2 ^ (k.dep - 1)) : Dr k d := ⟨s, t, m.f, by have := m.w; omega, m.d⟩
theorem dr_cnt {k : Kd} {r : Nat} (hk : (match k with | .count => true | .row n => decide (r < n) | .tab t => decide (r < t.length) | _ => false) = true) (h9 : r ≤ 9) : Dr k (nD r) := by
  have sm : Sm 12 (2 * k.dep) (nD r) := sm_int (by decide) (by omega) (by omega)
  have dp := dr_pos k
  cases k with
  | count => exact .mk' (nD_cnt r) rfl sm (by omega)
  | row n => exact .mk' (by simp only [isSt, nD_cnt, lt_nD, Bool.true_and]; exact hk) rfl sm (by omega)
  | tab t => exact .mk' (by simp only [isSt, nD_cnt, lt_nD, Bool.true_and]; exact hk) rfl sm (by omega)
  | _ => cases hk
theorem adj_up : ∀ {ns : List Nat}, ns.Pairwise (· < ·) → (adj (ns.map nD)).all ltI = true
  | [], _ => rfl
  | [a], _ => rfl
  | a :: b :: r, h => by
    obtain ⟨h1, h2⟩ := List.pairwise_cons.mp h
    have ih := adj_up h2
    have e : adj ((a :: b :: r).map nD) = .tuple [nD a, nD b] :: adj ((b :: r).map nD) := rfl
    rw [e, List.all_cons, ih, Bool.and_true]
    have : a < b := h1 b List.mem_cons_self
    simp only [ltI, nD]
    exact decide_eq_true (by omega)
theorem dr_tops {n : Nat} {ties : List (Nat × Nat)} {ns : List Nat} (hn : n ≤ 3) (h1 : ∀ x ∈ ns, x < n) (h2 : ns.Pairwise (· < ·)) (h3 : freeB ties ns = true) (h4 : ns.length ≤ n) : Dr (.tops n ties) (.list (ns.map nD)) := by
  refine .mk' (n := 45) ?_ rfl ?_ (show 45 + 45 ≤ 90 * 2 ^ 0 by decide)
  · show isLot n ties _ = true
    simp only [isLot, seqOf]
    rw [adj_up h2, nat_ns, h3, Bool.true_and, Bool.and_true, List.all_eq_true]
    intro p hp
    obtain ⟨x, hx, rfl⟩ := List.mem_map.mp hp
    rw [nD_cnt, lt_nD, Bool.true_and]
    exact decide_eq_true (h1 x hx)
  · have hw : wtA (ns.map nD) = 14 * ns.length := by
      clear h1 h2 h3 h4
      induction ns with
      | nil => rfl
      | cons a r ih => simp only [List.map_cons, wtA, nD, wt, List.length_cons] at ih ⊢; omega
    refine sm_list ⟨fineA_all.mpr fun d hd => ?_, ?_, ?_⟩
    · obtain ⟨x, hx, rfl⟩ := List.mem_map.mp hd
      have := h1 x hx
      simp [nD, fine]; omega
    · rw [hw]; omega
    · have : PyData.depthAll (ns.map nD) ≤ 0 := depA_le fun d hd => by
        obtain ⟨x, hx, rfl⟩ := List.mem_map.mp hd
        simp [nD, PyData.depth]
      simp only [Kd.dep]; omega
def optE (s : Str) : Option PyData → List PyData
  | none => []
  | some y => [.tuple [.str s, y]]
abbrev nmA : Str := "a"
abbrev nmZ : Str := "zzzzzzzz"
def okE (k : Kd) (o : Option PyData) : Prop := ∀ y, o = some y → Dr k y ∧ PyData.eqv y (least k) = false
theorem dr_map {k : Kd} {o1 o2 : Option PyData} (h1 : okE k o1) (h2 : okE k o2) : Dr (.map k) (.list (optE nmA o1 ++ optE nmZ o2)) := by
  have ent : ∀ (s : Str) (o : Option PyData), isName (.str s) = true → okE k o → (optE s o).all (entOk (entP k)) = true ∧ (optE s o).map (entBy (told k)) = optE s o := fun s o hn ho => by
    cases o with
    | none => exact ⟨rfl, rfl⟩
    | some y =>
      obtain ⟨hd, he⟩ := ho y rfl
      refine ⟨?_, ?_⟩
      · simp only [optE, List.all_cons, List.all_nil, Bool.and_true, entOk, hn, Bool.true_and, entP, hd.s, hd.t, he, Bool.not_false]
      · simp only [optE, List.map_cons, List.map_nil, entBy, hd.t]
  have n1 : isName (.str nmA) = true := by decide +kernel
  have n2 : isName (.str nmZ) = true := by decide +kernel
  obtain ⟨a1, a2⟩ := ent nmA o1 n1 h1
  obtain ⟨b1, b2⟩ := ent nmZ o2 n2 h2
  have e1 : 1 ≤ 2 ^ (k.dep - 1) := Nat.one_le_two_pow
  have e2 : 2 ^ (k.dep + 1 - 1) = 2 * 2 ^ (k.dep - 1) := by
    have := k.dep_pos
    rw [← Nat.pow_succ']; congr 1; omega
  refine .mk' (n := 180 * 2 ^ (k.dep - 1) - 45) ?_ ?_ ?_ ?_
  · have hst : isSt (.map k) (.list (optE nmA o1 ++ optE nmZ o2)) = (((optE nmA o1 ++ optE nmZ o2).all (entOk (entP k))) && (adj (optE nmA o1 ++ optE nmZ o2)).all ltS) := rfl
    rw [hst, List.all_append, a1, b1]
    cases o1 <;> cases o2 <;> first | rfl | exact (by decide +kernel : (decide (nmA.cps.toList < nmZ.cps.toList) && true) = true)
  · show PyData.list (List.map (entBy (told k)) (optE nmA o1 ++ optE nmZ o2)) = _
    rw [List.map_append, a2, b2]
  · have one : ∀ (s : Str) (o : Option PyData), s ∈ okStr → okE k o → fineA (optE s o) = true ∧ wtA (optE s o) + 24 ≤ 90 * 2 ^ (k.dep - 1) ∧ PyData.depthAll (optE s o) ≤ 2 * k.dep + 1 := fun s o hs ho => by
      cases o with
      | none => exact ⟨rfl, by simp only [optE, wtA]; omega, by simp [optE, PyData.depthAll]⟩
      | some y =>
        obtain ⟨hd, _⟩ := ho y rfl
        have hw := hd.w
        have hdp := hd.d
        refine ⟨?_, ?_, ?_⟩
        · simp [optE, fineA, fine, hd.f, hs]
        · simp only [optE, wtA, wt]; omega
        · simp only [optE, PyData.depthAll, PyData.depth]; omega
    obtain ⟨c1, c2, c3⟩ := one nmA o1 (by decide +kernel) h1
    obtain ⟨d1, d2, d3⟩ := one nmZ o2 (by decide +kernel) h2
    refine sm_list ⟨fineA_all.mpr fun d hd => ?_, ?_, ?_⟩
    · rcases List.mem_append.mp hd with hd | hd
      · exact fineA_all.mp c1 d hd
      · exact fineA_all.mp d1 d hd
    · rw [wtA_append]; omega
    · have : PyData.depthAll (optE nmA o1 ++ optE nmZ o2) ≤ 2 * k.dep + 1 := depA_le fun d hd => by
        rcases List.mem_append.mp hd with hd | hd
        · exact Nat.le_trans (depA_mem hd) c3
        · exact Nat.le_trans (depA_mem hd) d3
      show _ ≤ 2 * (k.dep + 1)
      omega
  · show _ ≤ 90 * 2 ^ (k.dep + 1 - 1)
    rw [e2]; omega
theorem sm_pair {n m : Nat} {x y : PyData} (f1 : fine x = true) (f2 : fine y = true) (hw : wt x + wt y + 7 ≤ n) (h1 : x.depth + 1 ≤ m) (h2 : y.depth + 1 ≤ m) : Sm n m (.tuple [x, y]) := by
  refine ⟨by simp [fine, fineA, f1, f2], by simp only [wt, wtA]; omega, by simp only [PyData.depth, PyData.depthAll]; omega⟩
theorem dr_two {l : Bool} {a b : Kd} {x y : PyData} (hx : Dr a x) (hy : Dr b y) : Dr (.two l a b) (.tuple [x, y]) := by
  have pa := a.dep_pos
  have pb := b.dep_pos
  have ea : 2 ^ (a.dep - 1) ≤ 2 ^ (max a.dep b.dep - 1) := Nat.pow_le_pow_right (by decide) (by omega)
  have eb : 2 ^ (b.dep - 1) ≤ 2 ^ (max a.dep b.dep - 1) := Nat.pow_le_pow_right (by decide) (by omega)
  have e2 : 2 ^ (max a.dep b.dep + 1 - 1) = 2 * 2 ^ (max a.dep b.dep - 1) := by
    rw [← Nat.pow_succ']; congr 1; omega
  have w1 := hx.w
  have w2 := hy.w
  have d1 := hx.d
  have d2 := hy.d
  refine .mk' (n := wt x + wt y + 7) (by simp only [isSt, hx.s, hy.s, Bool.and_self]) (by simp only [told, hx.t, hy.t]) (sm_pair hx.f hy.f (Nat.le_refl _) ?_ ?_) ?_
  · show _ ≤ 2 * (max a.dep b.dep + 1); omega
  · show _ ≤ 2 * (max a.dep b.dep + 1); omega
  · show _ ≤ 90 * 2 ^ (max a.dep b.dep + 1 - 1)
    rw [e2]; omega
theorem dr_above {a b : Kd} {s : Str} {y : PyData} (h : (s = "low" ∧ Dr a y) ∨ (s = "high" ∧ Dr b y)) : Dr (.above a b) (.tuple [.str s, y]) := by
  have pa := a.dep_pos
  have pb := b.dep_pos
  have ea : 2 ^ (a.dep - 1) ≤ 2 ^ (max a.dep b.dep - 1) := Nat.pow_le_pow_right (by decide) (by omega)
  have eb : 2 ^ (b.dep - 1) ≤ 2 ^ (max a.dep b.dep - 1) := Nat.pow_le_pow_right (by decide) (by omega)
  have e1 : 1 ≤ 2 ^ (max a.dep b.dep - 1) := Nat.one_le_two_pow
  have e2 : 2 ^ (max a.dep b.dep + 1 - 1) = 2 * 2 ^ (max a.dep b.dep - 1) := by
    rw [← Nat.pow_succ']; congr 1; omega
  have fl : fine (.str "low") = true := by decide +kernel
  have fh : fine (.str "high") = true := by decide +kernel
  have hne : ¬ (("high" : Str) = "low") := by decide +kernel
  rcases h with ⟨rfl, hy⟩ | ⟨rfl, hy⟩
  · have w2 := hy.w
    have d2 := hy.d
    refine .mk' (n := 12 + wt y + 7) ?_ ?_ (sm_pair fl hy.f (by simp only [wt]; omega) ?_ ?_) ?_
    · show (if ("low" : Str) = "low" then isSt a y else _) = true
      rw [if_pos rfl]; exact hy.s
    · show PyData.tuple [.str "low", if ("low" : Str) = "low" then told a y else told b y] = _
      rw [if_pos rfl, hy.t]
    · show 0 + 1 ≤ 2 * (max a.dep b.dep + 1); omega
    · show _ ≤ 2 * (max a.dep b.dep + 1); omega
    · show _ ≤ 90 * 2 ^ (max a.dep b.dep + 1 - 1)
      rw [e2]; omega
  · have w2 := hy.w
    have d2 := hy.d
    refine .mk' (n := 12 + wt y + 7) ?_ ?_ (sm_pair fh hy.f (by simp only [wt]; omega) ?_ ?_) ?_
    · show (if ("high" : Str) = "low" then isSt a y else if ("high" : Str) = "high" then isSt b y else false) = true
      rw [if_neg hne, if_pos rfl]; exact hy.s
    · show PyData.tuple [.str "high", if ("high" : Str) = "low" then told a y else told b y] = _
      rw [if_neg hne, hy.t]
    · show 0 + 1 ≤ 2 * (max a.dep b.dep + 1); omega
    · show _ ≤ 2 * (max a.dep b.dep + 1); omega
    · show _ ≤ 90 * 2 ^ (max a.dep b.dep + 1 - 1)
      rw [e2]; omega
abbrev N__law_state : List Str := ["_law_pot_here", "_law_kind_here", "_law_word", "_law_found", "_law_point", "_law_more", "_law_name", "_law_state_here", "_law_side", "_law_first"]
theorem sc__law_state : FnScope N__law_state ["_law_pot_here", "_law_kind_here"] (defScope s__law_state) := ⟨rfl, rfl, rfl, by decide +kernel, rfl, by decide +kernel, by decide +kernel⟩
theorem rng_get {n i x : Nat} (h : (List.range n)[i]? = some x) : x = i ∧ x < n := by
  obtain ⟨l, g⟩ := List.getElem?_eq_some_iff.mp h
  rw [List.getElem_range] at g
  rw [List.length_range] at l
  exact ⟨g.symm, by omega⟩
theorem ok__law_state (T : Txt K mg w aS) (F : Stands K mg "_law_state" s__law_state ["_law_pot_here", "_law_kind_here"]) (C__law_draw : Cal P w K mg base "_law_draw" 1 ["_law_pot_here", "_law_many"] spDraw) (C__law_is_free : Cal P w K mg base "_law_is_free" 2 ["_law_many", "_law_ties", "_law_points"] spFree) (Cl : ∀ n, Cal P w K mg base "_law_least" (n + 1) ["_law_kind_here"] (spLeast n)) : ∀ n, n ≤ 4 → Cal P w K mg base "_law_state" (n + 4) ["_law_pot_here", "_law_kind_here"] (spState n)
  | 0, _ => (F.noneQ sc__law_state fun ds ⟨d, _, k, _, hd, _⟩ => by have := k.dep_pos; omega).up (by omega)
  | n + 1, n4 => by
    have C__law_state := ok__law_state T F C__law_draw C__law_is_free Cl n (by omega)
    have C__law_least := Cl n
    have nd := sc__law_state.nd
    refine F.pot sc__law_state (fun ds h => by rw [p1_len h]; rfl) fun f cdv A outer s H E hr => ⟨_, (pss_cons (ps_set (i := 2) nd rfl (by first | exact Or.inl rfl | exact Or.inr rfl) (pe_ix (k_ix (K := K) rfl) (pv 1) pe_int (fun _ _ => rfl)))
        (pss_cons (ps_if (pt_cmpR op_eq (pv 2) pe_str (nomark _)) (pss_one (ps_ret (pe_cal C__law_draw hr (by omega) (by rfl) (pa_cons (pv 0) (pa_cons pe_int pa_nil))))) pss_nil)
        (pss_cons (ps_if (pt_cmpR (k_in (K := K) rfl) (pv 2) (pe_lst (pa_cons pe_str (pa_cons pe_str pa_nil))) (by rfl)) (pss_one (ps_ret (pe_cal C__law_draw hr (by omega) (by rfl) (pa_cons (pv 0) (pa_cons (pe_ifExp (pt_cmpR op_eq (pv 2) pe_str (nomark _)) (pe_ix (k_ix (K := K) rfl) (pv 1) pe_int (fun _ _ => rfl)) (pe_callB (k_len (K := K) rfl) (by rfl) T.b_len bt_len (pa_cons (pe_ix (k_ix (K := K) rfl) (pv 1) pe_int (fun _ _ => rfl)) pa_nil))) pa_nil))))) pss_nil)
        (pss_cons (ps_if (pt_cmpR op_eq (pv 2) pe_str (nomark _)) (pss_cons (ps_set (i := 3) nd rfl (by first | exact Or.inl rfl | exact Or.inr rfl) (pe_lst pa_nil))
        (pss_cons (ps_for PassesOwn.never rfl (pi_range1 (by rfl) T.b_range (pa_cons (pe_ix (k_ix (K := K) rfl) (pv 1) pe_int (fun _ _ => rfl)) pa_nil)) (pg_name (i := 4) nd rfl (by first | exact Or.inl rfl | exact Or.inr rfl)) (pss_cons (ps_set (i := 5) nd rfl (by first | exact Or.inl rfl | exact Or.inr rfl) (pe_op op_cat (pv 3) (pe_lst (pa_cons (pv 4) pa_nil))))
        (pss_one (ps_if (PW.pt (pw_and (pt_cmpR op_eq (pe_cal C__law_draw hr (by omega) (by rfl) (pa_cons (pv 0) (pa_cons pe_int pa_nil))) pe_int (nomark _)) (pw_and1 (pt_val (pe_cal C__law_is_free hr (by omega) (by rfl) (pa_cons (pe_ix (k_ix (K := K) rfl) (pv 1) pe_int (fun _ _ => rfl)) (pa_cons (pe_ix (k_ix (K := K) rfl) (pv 1) pe_int (fun _ _ => rfl)) (pa_cons (pv 5) pa_nil)))))))) (pss_one (ps_set (i := 3) nd rfl (by first | exact Or.inl rfl | exact Or.inr rfl) (pv 5))) pss_nil))))
        (pss_one (ps_ret (pv 3))))) pss_nil)
        (pss_cons (ps_if (pt_cmpR op_eq (pv 2) pe_str (nomark _)) (pss_cons (ps_set (i := 3) nd rfl (by first | exact Or.inl rfl | exact Or.inr rfl) (pe_lst pa_nil))
        (pss_cons (ps_for PassesOwn.never rfl (k_pl (K := K) rfl (pe_lst (pa_cons pe_str (pa_cons pe_str pa_nil)))) (pg_name (i := 6) nd rfl (by first | exact Or.inl rfl | exact Or.inr rfl)) (pss_cons (ps_set (i := 7) nd rfl (by first | exact Or.inl rfl | exact Or.inr rfl) (pe_cal C__law_state hr (by omega) (by rfl) (pa_cons (pv 0) (pa_cons (pe_ix (k_ix (K := K) rfl) (pv 1) pe_int (fun _ _ => rfl)) pa_nil))))
        (pss_one (ps_if (PW.pt (pw_and (pt_cmpR op_eq (pe_cal C__law_draw hr (by omega) (by rfl) (pa_cons (pv 0) (pa_cons pe_int pa_nil))) pe_int (nomark _)) (pw_and1 (pt_cmpR (k_neD (K := K) rfl hr.units) (pv 7) (pe_cal C__law_least hr (by omega) (by rfl) (pa_cons (pe_ix (k_ix (K := K) rfl) (pv 1) pe_int (fun _ _ => rfl)) pa_nil)) (nomark _))))) (pss_one (ps_expr (pe_bm PySem.F.plainAttrs_list PySem.F.slot_list_append PySem.F.type_list_append mt_append (pv 3) (pa_cons (pe_tup (pa_cons (pv 6) (pa_cons (pv 7) pa_nil))) pa_nil)))) pss_nil))))
        (pss_one (ps_ret (pv 3))))) pss_nil)
        (pss_cons (ps_if (pt_cmpR op_eq (pv 2) pe_str (nomark _)) (pss_cons (ps_set (i := 8) nd rfl (by first | exact Or.inl rfl | exact Or.inr rfl) (pe_cal C__law_draw hr (by omega) (by rfl) (pa_cons (pv 0) (pa_cons pe_int pa_nil))))
        (pss_one (ps_ret (pe_tup (pa_cons (pe_ix (k_ix (K := K) rfl) (pe_lst (pa_cons pe_str (pa_cons pe_str pa_nil))) (pv 8) (fun _ _ => rfl)) (pa_cons (pe_cal C__law_state hr (by omega) (by rfl) (pa_cons (pv 0) (pa_cons (pe_ix (k_ix (K := K) rfl) (pv 1) (pe_op op_add pe_int (pv 8)) (fun _ _ => rfl)) pa_nil))) pa_nil)))))) pss_nil)
        (pss_cons (ps_set (i := 9) nd rfl (by first | exact Or.inl rfl | exact Or.inr rfl) (pe_cal C__law_state hr (by omega) (by rfl) (pa_cons (pv 0) (pa_cons (pe_ix (k_ix (K := K) rfl) (pv 1) pe_int (fun _ _ => rfl)) pa_nil))))
        (pss_one (ps_ret (pe_tup (pa_cons (pv 9) (pa_cons (pe_cal C__law_state hr (by omega) (by rfl) (pa_cons (pv 0) (pa_cons (pe_ix (k_ix (K := K) rfl) (pv 1) pe_int (fun _ _ => rfl)) pa_nil))) pa_nil)))))))))))), fun p ds h => ?_⟩
    obtain ⟨d, rfl, k, hk, hd, rfl⟩ := h
    show SvQ [p] _ [none, some k.data, none, none, none, none, none, none, none, none] [] _ _
    refine svq_asg (S := fun d => d = .str k.word) (evq_of (ev_word (ev_var rfl)) rfl) (.inr (by decide)) (by simp) fun d e => ?_
    subst e
    have W0 : EvD (tVar 2) [none, some k.data, some (.str k.word), none, none, none, none, none, none, none] (.str k.word) := ev_var rfl
    have Wd : ∀ (z : Str) b, decide (k.word = z) = b → EvT (tTest (tOp rEq (tVar 2) (tC (.str z)))) [none, some k.data, some (.str k.word), none, none, none, none, none, none, none] b := fun z b e => (et_test (ev_op W0 ev_str rv_eqS)).is e
    have W : ∀ (z : Str) b, decide (k.word = z) = b → EtQ [p] (tTest (tOp rEq (tVar 2) (tC (.str z)))) [none, some k.data, some (.str k.word), none, none, none, none, none, none, none] [] fun c => c = b := fun z b e => etq_of (Wd z b e) rfl
    have V : ∀ ρ (i : Nat) d, ρ[1]? = some (some k.data) → k.rest[i]? = some d → EvD (tOp (rIx K) (tVar 1) (tC (.int ((i + 1 : Nat) : Int)))) ρ d := fun ρ i d e1 e => ev_part (ev_var e1) ev_int e
    have I2 : ∀ b, (["row", "table"] : List Str).contains k.word = b → EtQ [p] (tTest (tOp (rIn K false) (tVar 2) (tLst (tCons (tC (.str "row")) (tCons (tC (.str "table")) tNil))))) [none, some k.data, some (.str k.word), none, none, none, none, none, none, none] [] fun c => c = b := fun b h => etq_of ((et_test (ev_op W0 (EvN.toD (en_lst (ea_two ev_str ev_str) (by simp))) (rv_inLS ["row", "table"] rfl))).is h) rfl
    have St : ∀ {ρ ω te} (s : Kd), s ∈ k.subs → EvD te ρ s.data → EvQ [p] (tCall (spState n) [] E0 (tCons (tVar 0) (tCons te tNil))) ρ ω (Dr s) := fun {ρ ω te} s hs h => evq_callQ (T := fun ds => ds = [s.data]) (eaq_of (ea_one h) rfl) fun ds e => ⟨⟨_, e, s, Kd.sub_ok hk hs, by have := Kd.sub_dep hs; omega, rfl⟩, fun d hd => sSt_is (e ▸ hd)⟩
    have fin : ∀ {d}, Dr k d → sSt (n + 1) [k.data] d := fun h => ⟨k, hk, hd, rfl, h⟩
    cases k with
    | count =>
      refine svq_whenT (W _ _ rfl) (svq_ret (evq_imp (evq_draw (m := 5) ev_int (by decide) (by decide)) fun c ⟨r, hr, e⟩ => ?_))
      subst e
      exact fin (dr_cnt rfl (by omega))
    | row m =>
      have hm : 1 ≤ m ∧ m ≤ 3 := by simpa [Kd.ok] using hk
      refine svq_whenF (W _ _ rfl) (svq_whenT (I2 _ (by rfl)) (svq_ret (evq_imp (evq_draw (m := m) (ev_ifT (Wd _ _ rfl) (V _ 0 _ rfl rfl)) (by omega) (by omega)) fun c ⟨r, hr, e⟩ => ?_)))
      subst e
      exact fin (dr_cnt (decide_eq_true hr) (by omega))
    | tab rows =>
      have ht : rows ∈ okTabs := by simpa [Kd.ok] using hk
      obtain ⟨⟨h8, h1⟩, _⟩ := tab_ok rows ht
      refine svq_whenF (W _ _ rfl) (svq_whenT (I2 _ (by rfl)) (svq_ret (evq_imp (evq_draw (m := rows.length) (ev_ifF (Wd _ _ rfl) ((ev_cb (ea_one (V _ 0 _ rfl rfl)) rc_lenL).is (by rw [List.length_map]; rfl))) (by omega) (by omega)) fun c ⟨r, hr, e⟩ => ?_)))
      subst e
      exact fin (dr_cnt (decide_eq_true hr) (by omega))
    | tops m ties =>
      have ht : (m, ties) ∈ okTops := by simpa [Kd.ok] using hk
      have hm : m ≤ 3 := (tops_small _ ht).1
      refine svq_whenF (W _ _ rfl) (svq_whenF (I2 _ (by rfl)) (svq_whenT (W _ _ rfl) ?_))
      refine svq_asg (S := fun d => d = .list (([] : List Nat).map nD)) (evq_of (EvN.toD (en_lst ea_nil (by decide))) rfl) (.inr (by decide)) (by simp) fun d e => ?_
      subst e
      refine svq_seq (N := fun a b => ∃ ns : List Nat, (∀ x ∈ ns, x < m) ∧ ns.Pairwise (· < ·) ∧ freeB ties ns = true ∧ ns.length ≤ m ∧ a = [none, some (Kd.tops m ties).data, some (.str "tops"), some (.list (ns.map nD)), none, none, none, none, none, none] ∧ b = []) (svq_for (vs := [4]) (List.range m) nD
        (fun i a b => ∃ ns : List Nat, (∀ x ∈ ns, x < i) ∧ ns.Pairwise (· < ·) ∧ freeB ties ns = true ∧ ns.length ≤ i ∧ a = [none, some (Kd.tops m ties).data, some (.str "tops"), some (.list (ns.map nD)), none, none, none, none, none, none] ∧ b = []) (fun x ρ => ρ.set 4 (some (nD x)))
        (is_rangeN (ea_one (V _ 0 _ rfl rfl)) (by omega)) ⟨[], by simp, List.Pairwise.nil, rfl, by simp, rfl, rfl⟩ (fun i x a b hx ⟨ns, _, _, _, _, ea, eb⟩ => ⟨gt_name (by decide), by rw [eb]; simp⟩) (.inr (by decide)) (fun i x a b hx ⟨ns, g1, g2, g3, g4, ea, eb⟩ => ?_) (fun a b ⟨ns, g1, g2, g3, g4, ea, eb⟩ => by rw [List.length_range] at g1 g4; exact ⟨ns, g1, g2, g3, g4, ea, eb⟩)) fun a b ⟨ns, g1, g2, g3, g4, ea, eb⟩ => ?_
      · subst ea eb
        obtain ⟨hxi, hxm⟩ := rng_get hx
        subst hxi
        refine svq_asg (S := fun d => d = .list ((ns ++ [x]).map nD)) (evq_of (EvN.toD (en_cat (ev_var rfl) (EvN.toD (en_lst (ea_one (ev_var rfl)) (by simp))) (by rw [List.length_map]; simp; omega))) (by simp)) (.inr (by decide)) (by simp) fun d e => ?_
        subst e
        show SvQ [p] _ [none, some (Kd.tops m ties).data, some (.str "tops"), some (.list (ns.map nD)), some (nD x), some (.list ((ns ++ [x]).map nD)), none, none, none, none] [] _ _
        have hl : ∀ y ∈ ns ++ [x], y < m := fun y hy => by
          rcases List.mem_append.mp hy with hy | hy
          · have := g1 y hy; omega
          · simp at hy; omega
        refine svq_if (B := fun b => b = true → freeB ties (ns ++ [x]) = true) (etq_and (B1 := fun _ => True) (B2 := fun b => b = freeB ties (ns ++ [x])) (etq_test (S := fun d => ∃ b : Bool, d = .bool b) (evq_op (S1 := fun d => ∃ r < 2, d = nD r) (S2 := fun d => d = .int 1) (evq_draw (m := 2) ev_int (by decide) (by decide)) (evq_of ev_int rfl) fun u v ⟨r, _, e1⟩ e2 => by
            subst e1 e2; exact ⟨_, rv_eqI, _, rfl⟩) fun d ⟨b, e⟩ => ⟨b, e, trivial⟩)
          (etq_of (et_B (ev_callIs (ea_cons (V _ 0 _ rfl rfl) (ea_two (V _ 1 _ rfl rfl) (ev_var rfl))) ⟨_, _, _, rfl, m, ties, ns ++ [x], ht, rfl, .l _, .l _, hl, by simp; omega⟩ (freeF_is (d := nD m) (.l _) (.l _)))) rfl) (fun _ z => nomatch z) (fun b e z => by rw [← e]; exact z)) (fun hb => ?_) fun hb => ?_
        · refine svq_imp (svq_less (ρ0 := [none, some (Kd.tops m ties).data, some (.str "tops"), some (.list ((ns ++ [x]).map nD)), none, none, none, none, none, none]) (ω' := []) (svq_set (S := fun d => d = .list ((ns ++ [x]).map nD)) (evq_of (ev_var rfl) rfl) (.inr (by decide)) (by simp) fun d e => by subst e; exact ⟨(by (repeat first | exact Rle.nil | refine Rle.same ?_ | refine Rle.drop ?_)), rfl⟩)) (fun _ h => h) fun a b ⟨ea, eb⟩ => ⟨ns ++ [x], fun y hy => ?_, ?_, hb rfl, by simp; omega, ea, eb⟩
          · rcases List.mem_append.mp hy with hy | hy
            · have := g1 y hy; omega
            · simp at hy; omega
          · rw [List.pairwise_append]
            exact ⟨g2, by simp, fun y hy z hz => by simp at hz; have := g1 y hy; omega⟩
        · exact svq_imp (svq_less (ρ0 := [none, some (Kd.tops m ties).data, some (.str "tops"), some (.list (ns.map nD)), none, none, none, none, none, none]) (ω' := []) (svq_next ⟨(by (repeat first | exact Rle.nil | refine Rle.same ?_ | refine Rle.drop ?_)), rfl⟩)) (fun _ h => h) fun a b ⟨ea, eb⟩ => ⟨ns, fun y hy => by have := g1 y hy; omega, g2, g3, by omega, ea, eb⟩
      · subst ea eb
        exact svq_ret (evq_of (ev_var rfl) (fin (dr_tops hm g1 g2 g3 g4)))
    | map a =>
      refine svq_whenF (W _ _ rfl) (svq_whenF (I2 _ (by rfl)) (svq_whenF (W _ _ rfl) (svq_whenT (W _ _ rfl) ?_)))
      refine svq_own (ds := []) (en_lst ea_nil (by decide)) (by simp) (.inr (by decide)) (fun _ m => nomatch m) ?_
      have adp : a.dep ≤ n := by simp only [Kd.dep] at hd; omega
      have aok : a.ok = true := hk
      have nms : ∀ i x, ([nmA, nmZ] : List Str)[i]? = some x → (i = 0 ∧ x = nmA) ∨ (i = 1 ∧ x = nmZ) := fun i x h => by
        match i, h with
        | 0, h => exact .inl ⟨rfl, (by simpa using h.symm)⟩
        | 1, h => exact .inr ⟨rfl, (by simpa using h.symm)⟩
      refine svq_seq (N := fun x b => ∃ o1 o2, okE a o1 ∧ okE a o2 ∧ x = [none, some (Kd.map a).data, some (.str "map"), none, none, none, none, none, none, none] ∧ b = [(3, optE nmA o1 ++ optE nmZ o2)]) (svq_for (vs := [6]) [nmA, nmZ] .str
        (fun i x b => ∃ o1 o2, okE a o1 ∧ okE a o2 ∧ (i = 0 → o1 = none) ∧ (i ≤ 1 → o2 = none) ∧ x = [none, some (Kd.map a).data, some (.str "map"), none, none, none, none, none, none, none] ∧ b = [(3, optE nmA o1 ++ optE nmZ o2)]) (fun x ρ => ρ.set 6 (some (.str x)))
        (is_list (EvN.toD (en_lst (ea_two ev_str ev_str) (by simp)))) ⟨none, none, (fun y z => nomatch z), (fun y z => nomatch z), fun _ => rfl, fun _ => rfl, rfl, rfl⟩ (fun i x c b hx ⟨o1, o2, _, _, _, _, ea, eb⟩ => ⟨gt_name (by decide), by rw [eb]; simp⟩) (.inr (by decide)) (fun i x c b hx ⟨o1, o2, h1, h2, z1, z2, ea, eb⟩ => ?_) (fun c b ⟨o1, o2, h1, h2, _, _, ea, eb⟩ => ⟨o1, o2, h1, h2, ea, eb⟩)) fun c b ⟨o1, o2, h1, h2, ea, eb⟩ => ?_
      · subst ea eb
        refine svq_asg (St a (by simp [Kd.subs]) (V _ 0 _ rfl rfl)) (.inr (by decide)) (by simp) fun y hy => ?_
        show SvQ [p] _ [none, some (Kd.map a).data, some (.str "map"), none, none, none, some (.str x), some y, none, none] [(3, optE nmA o1 ++ optE nmZ o2)] _ _
        have ysh : SeqAt.shaped y = true := by
          unfold SeqAt.shaped
          rw [fine_canLay y hy.f, Bool.true_and]
          have := hy.d
          exact decide_eq_true (by omega)
        refine svq_if (B := fun b => b = true → PyData.eqv y (least a) = false) (etq_and (B1 := fun _ => True) (B2 := fun b => b = !PyData.eqv y (least a)) (etq_test (S := fun d => ∃ b : Bool, d = .bool b) (evq_op (S1 := fun d => ∃ r < 2, d = nD r) (S2 := fun d => d = .int 1) (evq_draw (m := 2) ev_int (by decide) (by decide)) (evq_of ev_int rfl) fun u v ⟨r, _, e1⟩ e2 => by
            subst e1 e2; exact ⟨_, rv_eqI, _, rfl⟩) fun d ⟨b, e⟩ => ⟨b, e, trivial⟩)
          (etq_of (et_test (ev_op (ev_var rfl) (ev_callIs (ea_one (V _ 0 _ rfl rfl)) ⟨_, rfl, a, aok, adp, rfl⟩ (leastF_is a)) (rv_neD ysh (least_shaped (by omega))))) rfl) (fun _ z => nomatch z) (fun b e z => by rw [z] at e; simpa using e.symm)) (fun hb => ?_) fun hb => ?_
        · have hev := hb rfl
          have ent : EvD (tTup (tCons (tVar 6) (tCons (tVar 7) tNil))) [none, some (Kd.map a).data, some (.str "map"), none, none, none, some (.str x), some y, none, none] (.tuple [.str x, y]) := ev_tup (ea_two (ev_var rfl) (ev_var rfl)) (by simp)
          have hlen : (optE nmA o1 ++ optE nmZ o2).length < 100000 := by cases o1 <;> cases o2 <;> simp [optE]
          have oky : okE a (some y) := fun y' e => by cases e; exact ⟨hy, hev⟩
          rcases nms i x hx with ⟨rfl, rfl⟩ | ⟨rfl, rfl⟩
          · have e1 := z1 rfl
            have e2 := z2 (by omega)
            subst e1 e2
            exact svq_imp (svq_less (ρ0 := [none, some (Kd.map a).data, some (.str "map"), none, none, none, none, none, none, none]) (ω' := [(3, optE nmA (some y) ++ optE nmZ none)]) (svq_app1 (k := 0) (i := 3) rfl ent hlen ⟨(by (repeat first | exact Rle.nil | refine Rle.same ?_ | refine Rle.drop ?_)), rfl⟩)) (fun _ h => h) fun c b ⟨ea, eb⟩ => ⟨some y, none, oky, (fun y z => nomatch z), fun z => by omega, fun _ => rfl, ea, eb⟩
          · have e2 := z2 (by omega)
            subst e2
            exact svq_imp (svq_less (ρ0 := [none, some (Kd.map a).data, some (.str "map"), none, none, none, none, none, none, none]) (ω' := [(3, optE nmA o1 ++ optE nmZ (some y))]) (svq_app1 (k := 0) (i := 3) rfl ent hlen ⟨(by (repeat first | exact Rle.nil | refine Rle.same ?_ | refine Rle.drop ?_)), by cases o1 <;> rfl⟩)) (fun _ h => h) fun c b ⟨ea, eb⟩ => ⟨o1, some y, h1, oky, fun z => by omega, fun z => by omega, ea, eb⟩
        · refine svq_imp (svq_less (ρ0 := [none, some (Kd.map a).data, some (.str "map"), none, none, none, none, none, none, none]) (ω' := [(3, optE nmA o1 ++ optE nmZ o2)]) (svq_next ⟨(by (repeat first | exact Rle.nil | refine Rle.same ?_ | refine Rle.drop ?_)), rfl⟩)) (fun _ h => h) fun c b ⟨ea, eb⟩ => ?_
          rcases nms i x hx with ⟨rfl, _⟩ | ⟨rfl, _⟩
          · exact ⟨o1, o2, h1, h2, fun z => by omega, fun _ => z2 (by omega), ea, eb⟩
          · exact ⟨o1, o2, h1, h2, fun z => by omega, fun z => by omega, ea, eb⟩
      · subst ea eb
        exact svq_freeze (svq_ret (evq_of (ev_var rfl) (fin (dr_map h1 h2))))
    | above a b =>
      refine svq_whenF (W _ _ rfl) (svq_whenF (I2 _ (by rfl)) (svq_whenF (W _ _ rfl) (svq_whenF (W _ _ rfl) (svq_whenT (W _ _ rfl) ?_))))
      refine svq_asg (evq_draw (m := 2) ev_int (by decide) (by decide)) (.inr (by decide)) (by simp) fun d ⟨r, hr, e⟩ => ?_
      subst e
      have lows : EvD (tLst (tCons (tC (.str "low")) (tCons (tC (.str "high")) tNil))) [none, some (Kd.above a b).data, some (.str "above"), none, none, none, none, none, some (nD r), none] (.list [.str "low", .str "high"]) := EvN.toD (en_lst (ea_two ev_str ev_str) (by simp))
      have r2 : r = 0 ∨ r = 1 := by omega
      rcases r2 with rfl | rfl
      · refine svq_ret (evq_tup (T := fun ds => ∃ y, Dr a y ∧ ds = [.str "low", y]) (eaq_cons (S := fun d => d = .str "low") (evq_of (ev_op lows (ev_var rfl) (rv_ixL (i := 0) rfl)) rfl) fun d e => eaq_one (evq_imp (St a (by simp [Kd.subs]) (ev_part (i := 0) (ev_var rfl) (ev_op ev_int (ev_var rfl) rv_I) rfl)) fun y hy => ⟨y, hy, by rw [e]⟩)) (fun ds ⟨y, _, e⟩ => by rw [e]; simp) fun ds ⟨y, hy, e⟩ => by rw [e]; exact fin (dr_above (.inl ⟨rfl, hy⟩)))
      · refine svq_ret (evq_tup (T := fun ds => ∃ y, Dr b y ∧ ds = [.str "high", y]) (eaq_cons (S := fun d => d = .str "high") (evq_of (ev_op lows (ev_var rfl) (rv_ixL (i := 1) rfl)) rfl) fun d e => eaq_one (evq_imp (St b (by simp [Kd.subs]) (ev_part (i := 1) (ev_var rfl) (ev_op ev_int (ev_var rfl) rv_I) rfl)) fun y hy => ⟨y, hy, by rw [e]⟩)) (fun ds ⟨y, _, e⟩ => by rw [e]; simp) fun ds ⟨y, hy, e⟩ => by rw [e]; exact fin (dr_above (.inr ⟨rfl, hy⟩)))
    | two l a b =>
      have hw : ∀ z : Str, z ≠ "pair" → z ≠ "later" → decide ((Kd.two l a b).word = z) = false := fun z h1 h2 => decide_eq_false (by cases l; exact fun e => h1 e.symm; exact fun e => h2 e.symm)
      refine svq_whenF (W _ _ (hw _ (by decide +kernel) (by decide +kernel))) (svq_whenF (I2 false (by cases l <;> rfl)) (svq_whenF (W _ _ (hw _ (by decide +kernel) (by decide +kernel))) (svq_whenF (W _ _ (hw _ (by decide +kernel) (by decide +kernel))) (svq_whenF (W _ _ (hw _ (by decide +kernel) (by decide +kernel))) ?_))))
      refine svq_asg (St a (by simp [Kd.subs]) (V _ 0 _ rfl rfl)) (.inr (by decide)) (by simp) fun x hx => ?_
      refine svq_ret (evq_tup (T := fun ds => ∃ y, Dr b y ∧ ds = [x, y]) (eaq_cons (S := fun d => d = x) (evq_of (ev_var rfl) rfl) fun d e => eaq_one (evq_imp (St b (by simp [Kd.subs]) (V _ 1 _ rfl rfl)) fun y hy => ⟨y, hy, by rw [e]⟩)) (fun ds ⟨y, _, e⟩ => by rw [e]; simp) fun ds ⟨y, hy, e⟩ => by rw [e]; exact fin (dr_two hx hy))
end
end Pm
namespace Pm
open PySem PySem.Spec PyProof.Rows L2
section
variable {P : Program} {w : World} {K : PySem.W.Frag} {mg : Str → Option Value} {base : Heap} {aS : Addr}

/-! ### all lists as tuples -/
mutual
def asT : PyData → PyData
  | .list ds => .tuple (asTA ds)
  | .tuple ds => .tuple (asTA ds)
  | d => d
def asTA : List PyData → List PyData
  | [] => []
  | d :: ds => asT d :: asTA ds
end
theorem asTA_map : ∀ ds : List PyData, asTA ds = ds.map asT
  | [] => by simp [asTA]
  | d :: ds => by simp only [asTA, List.map_cons, asTA_map ds]
mutual
theorem asT_le : ∀ d : PyData, Le (asT d) d
  | .list ds => by
    have h := asTA_le ds
    simp only [asT]
    exact ⟨fun z => by simp only [fine] at z ⊢; exact h.1 z, by simp only [wt]; have := h.2.1; omega, by simp only [PyData.depth]; have := h.2.2; omega⟩
  | .tuple ds => by
    have h := asTA_le ds
    simp only [asT]
    exact ⟨fun z => by simp only [fine] at z ⊢; exact h.1 z, by simp only [wt]; have := h.2.1; omega, by simp only [PyData.depth]; have := h.2.2; omega⟩
  | .none => by simp only [asT]; exact Le.refl _
  | .bool _ => by simp only [asT]; exact Le.refl _
  | .int _ => by simp only [asT]; exact Le.refl _
  | .str _ => by simp only [asT]; exact Le.refl _
  | .dict _ => by simp only [asT]; exact Le.refl _
theorem asTA_le : ∀ ds : List PyData, (fineA ds = true → fineA (asTA ds) = true) ∧ wtA (asTA ds) ≤ wtA ds ∧ PyData.depthAll (asTA ds) ≤ PyData.depthAll ds
  | [] => by simp only [asTA]; exact ⟨fun h => h, Nat.le_refl _, Nat.le_refl _⟩
  | d :: ds => by
    obtain ⟨h1, h2, h3⟩ := asTA_le ds
    have g := asT_le d
    have gw := g.w
    have gd := g.d
    simp only [asTA]
    refine ⟨fun z => ?_, ?_, ?_⟩
    · simp only [fineA, Bool.and_eq_true] at z ⊢
      exact ⟨g.f z.1, h1 z.2⟩
    · simp only [wtA]; omega
    · simp only [PyData.depthAll]; omega
end
theorem asT_seq {d : PyData} {ds : List PyData} (h : IsSeq d ds) : asT d = .tuple (ds.map asT) := by cases h <;> simp only [asT, asTA_map]
theorem asT_nD (x : Nat) : asT (nD x) = nD x := by simp only [nD, asT]
theorem asT_str (s : Str) : asT (.str s) = .str s := by simp only [asT]
/-- a state as tuples is the same state -/
theorem asT_st : ∀ (k : Kd) (d : PyData), isSt k d = true → isSt k (asT d) = true ∧ told k (asT d) = told k d
  | .count, d, h => by
    cases d <;> first | (simp only [asT]; exact ⟨h, trivial⟩) | (simp [isSt, isCnt] at h)
  | .row n, d, h => by
    cases d <;> first | (simp only [asT]; exact ⟨h, trivial⟩) | (simp [isSt, isCnt] at h)
  | .tab n, d, h => by
    cases d <;> first | (simp only [asT]; exact ⟨h, trivial⟩) | (simp [isSt, isCnt] at h)
  | .tops n ties, d, h => by
    have hs : isLot n ties d = true := h
    obtain ⟨ds, hds⟩ : ∃ ds, IsSeq d ds := by
      cases d with
      | list es => exact ⟨es, .l _⟩
      | tuple es => exact ⟨es, .t _⟩
      | _ => simp [isLot, seqOf] at hs
    unfold isLot at hs
    rw [hds.of] at hs
    have hs2 : ((ds.all fun p => isCnt p && ltN n p) && ((adj ds).all ltI && freeB ties (ds.map natOf))) = true := hs
    have hs3 := hs2
    simp only [Bool.and_eq_true] at hs3
    obtain ⟨ns, rfl, hlt⟩ := cnts (n := n) (ps := ds) (by simpa using hs3.1)
    have e : (ns.map nD).map asT = ns.map nD := by
      rw [List.map_map]
      exact List.map_congr_left fun x _ => asT_nD x
    rw [asT_seq hds, e]
    refine ⟨hs2, ?_⟩
    show PyData.list _ = PyData.list (sq d)
    rw [hds.sq]; rfl
  | .map k, d, h => by
    obtain ⟨ds, hds⟩ : ∃ ds, IsSeq d ds := by
      cases d with
      | list es => exact ⟨es, .l _⟩
      | tuple es => exact ⟨es, .t _⟩
      | _ => simp [isSt, seqOf] at h
    have hst : ((ds.all (entOk (entP k))) && (adj ds).all ltS) = true := by
      have : isSt (.map k) d = ((ds.all (entOk (entP k))) && (adj ds).all ltS) := by simp only [isSt, hds.of]; rfl
      rw [← this]; exact h
    obtain ⟨h1, h2⟩ := Bool.and_eq_true_iff.mp hst
    obtain ⟨prs, rfl, hp⟩ := ents h1
    have nm : ∀ p ∈ prs, ∃ s, p.1 = .str s ∧ isName (.str s) = true := fun p hm => by
      have := (hp p hm).1
      cases e : p.1 <;> rw [e] at this <;> first | exact ⟨_, rfl, this⟩ | cases this
    have en : ∀ p ∈ prs, asT (tup2 p) = .tuple [p.1, asT p.2] := fun p hm => by
      obtain ⟨s, e, _⟩ := nm p hm
      simp only [tup2, asT, asTA, e]
    have e1 : (prs.map tup2).map asT = prs.map fun p => .tuple [p.1, asT p.2] := by
      rw [List.map_map]
      exact List.map_congr_left fun p hm => en p hm
    rw [asT_seq hds, e1]
    have ih : ∀ p ∈ prs, isSt k (asT p.2) = true ∧ told k (asT p.2) = told k p.2 := fun p hm => asT_st k p.2 (by
      have := (hp p hm).2
      unfold entP at this
      exact (Bool.and_eq_true_iff.mp this).1)
    refine ⟨?_, ?_⟩
    · have : isSt (.map k) (.tuple (prs.map fun p => .tuple [p.1, asT p.2])) = (((prs.map fun p => PyData.tuple [p.1, asT p.2]).all (entOk (entP k))) && (adj (prs.map fun p => PyData.tuple [p.1, asT p.2])).all ltS) := rfl
      rw [this, Bool.and_eq_true]
      refine ⟨?_, ?_⟩
      · rw [List.all_map, List.all_eq_true]
        intro p hm
        have hh := (hp p hm).2
        unfold entP at hh
        obtain ⟨g1, g2⟩ := Bool.and_eq_true_iff.mp hh
        show (isName p.1 && entP k (asT p.2)) = true
        unfold entP
        rw [(hp p hm).1, (ih p hm).1, (ih p hm).2, g2]; rfl
      · clear this h1 hds h hst hp nm en e1 ih
        induction prs with
        | nil => rfl
        | cons a r ih2 =>
          cases r with
          | nil => rfl
          | cons b r =>
            have st : ∀ (g : PyData × PyData → PyData) (a b : PyData × PyData) r, adj ((a :: b :: r).map g) = .tuple [g a, g b] :: adj ((b :: r).map g) := fun g a b r => rfl
            rw [st] at h2 ⊢
            rw [List.all_cons, Bool.and_eq_true] at h2 ⊢
            have kk : ∀ x y z : PyData, keyOf (.tuple [x, y]) = keyOf (.tuple [x, z]) := fun x y z => by cases x <;> rfl
            refine ⟨?_, ih2 h2.2⟩
            show decide ((keyOf (.tuple [a.1, asT a.2])).cps.toList < (keyOf (.tuple [b.1, asT b.2])).cps.toList) = true
            rw [kk a.1 (asT a.2) a.2, kk b.1 (asT b.2) b.2]
            exact h2.1
    · show PyData.list ((prs.map fun p => PyData.tuple [p.1, asT p.2]).map (entBy (told k))) = PyData.list ((sq d).map (entBy (told k)))
      rw [hds.sq, List.map_map, List.map_map]
      congr 1
      exact List.map_congr_left fun p hm => by
        show PyData.tuple [p.1, told k (asT p.2)] = .tuple [p.1, told k p.2]
        rw [(ih p hm).2]
  | .two l a b, d, h => by
    have hp : isPair d = true := by
      cases hq : isPair d with
      | true => rfl
      | false => rw [notPair_st hq rfl] at h; cases h
    obtain ⟨x, y, rfl⟩ := pair_of hp
    simp only [isSt, Bool.and_eq_true] at h
    obtain ⟨a1, a2⟩ := asT_st a x h.1
    obtain ⟨b1, b2⟩ := asT_st b y h.2
    simp only [asT, asTA, isSt, told, a1, a2, b1, b2, Bool.and_self]
    exact ⟨trivial, trivial⟩
  | .above a b, d, h => by
    have hp : isPair d = true := by
      cases hq : isPair d with
      | true => rfl
      | false => rw [notPair_st hq rfl] at h; cases h
    obtain ⟨x, y, rfl⟩ := pair_of hp
    obtain ⟨s, rfl⟩ : ∃ s, x = .str s := by cases x <;> first | exact ⟨_, rfl⟩ | simp [isSt] at h
    have h2 : (if s = "low" then isSt a y else if s = "high" then isSt b y else false) = true := h
    simp only [asT, asTA]
    show (if s = "low" then isSt a (asT y) else if s = "high" then isSt b (asT y) else false) = true ∧ PyData.tuple [.str s, if s = "low" then told a (asT y) else told b (asT y)] = .tuple [.str s, if s = "low" then told a y else told b y]
    by_cases z : s = "low"
    · rw [if_pos z] at h2
      obtain ⟨a1, a2⟩ := asT_st a y h2
      simp only [if_pos z, a1, a2]
      exact ⟨trivial, trivial⟩
    · rw [if_neg z] at h2
      by_cases z2 : s = "high"
      · rw [if_pos z2] at h2
        obtain ⟨b1, b2⟩ := asT_st b y h2
        simp only [if_neg z, if_pos z2, b1, b2]
        exact ⟨trivial, trivial⟩
      · rw [if_neg z2] at h2; cases h2
def pAsT (n : Nat) : PyData → Prop := fun d => Sv d ∧ d.depth + 1 ≤ n
abbrev spAsT (n : Nat) : Sp := spF (p1 (pAsT n)) (f1 asT)
abbrev N__law_as_tuples : List Str := ["_law_value", "_law_one"]
theorem sc__law_as_tuples : FnScope N__law_as_tuples ["_law_value"] (defScope s__law_as_tuples) := ⟨rfl, rfl, rfl, by decide +kernel, rfl, by decide +kernel, by decide +kernel⟩
theorem ok__law_as_tuples (T : Txt K mg w aS) (F : Stands K mg "_law_as_tuples" s__law_as_tuples ["_law_value"]) : ∀ n, Cal P w K mg base "_law_as_tuples" (n + 1) ["_law_value"] (spAsT n)
  | 0 => F.noneD sc__law_as_tuples fun ds ⟨d, _, _, h⟩ => by omega
  | n + 1 => by
    have C__law_as_tuples := ok__law_as_tuples T F n
    have nd := sc__law_as_tuples.nd
    refine F.pure sc__law_as_tuples (fun ds h => p1_len h) fun f cdv A outer s H E hr => ⟨_, (pss_cons (ps_if (pt_not (pt_val (pe_callB (k_isiT (K := K) rfl) (by rfl) T.b_isinstance bt_isinstance (pa_cons (pv 0) (pa_cons (pe_tup (pa_cons (pe_bltn (v := .ty "list") (by rfl) T.b_list bt_list rfl) (pa_cons (pe_bltn (v := .ty "tuple") (by rfl) T.b_tuple bt_tuple rfl) pa_nil))) pa_nil))))) (pss_one (ps_ret (pv 0))) pss_nil)
        (pss_one (ps_ret (pe_callTy (k_tuple (K := K) rfl) (by rfl) T.b_tuple bt_tuple (pa_cons (pe_lc (own := [("_law_one", 1)]) (by rfl) nd (k_pe (K := K) rfl (pv 0)) (blkOk_by (N := N__law_as_tuples) (sc := (defScope s__law_as_tuples)) (own := [("_law_one", 1)]) (by decide +kernel)) (fun _ _ _ _ _ => (pg_name (i := 1) nd rfl (by first | exact Or.inl rfl | exact Or.inr rfl))) (fun _ _ _ _ _ => pts_nil) (fun _ _ _ _ _ => (pe_cal C__law_as_tuples hr (by omega) (by rfl) (pa_cons (pv 1) pa_nil)))) pa_nil))))), fun ds h => ?_⟩
    obtain ⟨d, rfl, hd, hn⟩ := h
    show SvO _ [some d, none] (.ret (asT d))
    have Sq : EvD (tCB (rIsiT K) (tCons (tVar 0) (tCons (tTup (tCons (tC (.ty "list")) (tCons (tC (.ty "tuple")) tNil))) tNil))) [some d, none] (.bool (isLst d || isTup d)) := ev_isi2 (ev_var rfl) (kit_lst hd.noDict) (kit_tup hd.noDict)
    rcases seq_dec d hd.noDict with ⟨es, hes⟩ | hno
    · have hl := hd.len hes
      refine sv_whenF (et_notT ((et_B Sq).is (by cases hes <;> rfl))) (sv_ret ?_)
      rw [asT_seq hes]
      refine ev_tupOf (EvN.toD (en_lc1 es (fun x => x) asT (fun x => _) (is_either rfl hes).id (by omega) (fun _ _ => gt_name (List.mem_singleton.mpr rfl)) fun x hx => ?_)) (.l _)
      refine ev_callIs (ea_one (ev_var rfl)) ⟨_, rfl, hd.mem hes hx, ?_⟩ rfl
      have h1 := depA_mem hx
      have : PyData.depthAll es + 1 = d.depth := by cases hes <;> simp only [PyData.depth]
      omega
    · refine (sv_whenT (et_notF ((et_B Sq).is (flat_seq hno hd.noDict))) (sv_ret (ev_var rfl))).is ?_
      cases d with
      | list _ => cases hno
      | tuple _ => cases hno
      | _ => simp only [asT]
end
end Pm
namespace Pm
open PySem PySem.Spec PyProof.Rows L2
section
variable {P : Program} {w : World} {K : PySem.W.Frag} {mg : Str → Option Value} {base : Heap} {aS : Addr}

section
variable {ρ : Rho} {te tk : TE} {ds : List PyData}
theorem ev_neg {i : Int} (h : EvD te ρ (.int i)) : EvD (tUn (rU fun i => .int (-i)) te) ρ (.int (-i)) := fun ps σ H ok Q q => h ps σ H ok _ fun v H1 e1 hv => ⟨i, of_int hv, q _ H1 e1 dt_int⟩
theorem ev_fromE {k : Nat} (h : EvD te ρ (.list ds)) (hk : EvD tk ρ (nD k)) : EvD (tSl (rSlE K) te (tPart tk) tNoPart) ρ (.list (ds.drop k)) := fun ps σ H ok Q q => h ps σ H ok _ fun v H1 e1 hv => hk ps σ H1 (ok.mono e1) _ fun x H2 e2 hx => by
  refine ⟨k, of_int hx, ?_⟩
  obtain ⟨a, ys, e, n, h2, h3⟩ := of_lst (hv.mono (hid_same e2))
  subst e
  refine .inl ⟨a, ys, rfl, SqL.of h2, fun p np => ?_⟩
  rw [cut_from]
  exact q _ _ ((e1.trans e2).trans (same_upd np)) (dt_lst (fun m => al_mono (e1.trans e2) ok.al p m np) upd_same ((h3.drop k).mono (hid_same (same_upd np))))
theorem ev_toE {k : Nat} (h : EvD te ρ (.list ds)) (hk : EvD tk ρ (nD k)) : EvD (tSl (rSlE K) te tNoPart (tPart tk)) ρ (.list (ds.take k)) := fun ps σ H ok Q q => h ps σ H ok _ fun v H1 e1 hv => hk ps σ H1 (ok.mono e1) _ fun x H2 e2 hx => by
  refine ⟨k, of_int hx, ?_⟩
  obtain ⟨a, ys, e, n, h2, h3⟩ := of_lst (hv.mono (hid_same e2))
  subst e
  refine .inl ⟨a, ys, rfl, SqL.of h2, fun p np => ?_⟩
  rw [cut_to]
  exact q _ _ ((e1.trans e2).trans (same_upd np)) (dt_lst (fun m => al_mono (e1.trans e2) ok.al p m np) upd_same ((h3.take k).mono (hid_same (same_upd np))))
theorem en_rev (h : EvD te ρ (.list ds)) : EvN (tRevL K te) ρ ds.reverse := fun ps σ H ok Q q => h ps σ H ok _ fun v H1 e1 hv => by
  obtain ⟨a, ys, e, n, h2, h3⟩ := of_lst hv
  subst e
  exact ⟨a, ys, rfl, SqL.of h2, fun p np => q p _ _ (e1.free np) (e1.trans (same_upd np)) upd_same (dta_under np h3.reverse)⟩
end
section
variable {ls : List Addr} {ρ : Rho} {ω : Om} {R S S1 S2 : DS} {N : Rho → Om → Prop} {ta tb tc te tk : TE} {tw : TS} {ds es : List PyData}
theorem svq_par3 {i j l : Nat} (ha : EvQ ls ta ρ ω S1) (hb : EvQ ls tb ρ ω S2) (hc : EvN tc ρ es) (hil : i ≠ l) (hjl : j ≠ l) (ll : l < ρ.length) (hi : ls = [] ∨ i ≠ 0) (hj : ls = [] ∨ j ≠ 0) (hl : ls = [] ∨ l ≠ 0)
    (fi : ∀ e ∈ ω, e.1 ≠ i) (fj : ∀ e ∈ ω, e.1 ≠ j) (fl : ∀ e ∈ ω, e.1 ≠ l) (hn : ∀ d e, S1 d → S2 e → SvQ ls tw (((ρ.set i (some d)).set j (some e)).set l none) ((l, es) :: ω) R N) : SvQ ls (tSeq (tPar3 i j l (tCons ta (tCons tb (tCons tc tNil)))) tw) ρ ω R N := fun ps H0 qs H σ D ok q1 q2 =>
  ha ps H0 qs H σ ok _ fun v d H1 sd g1 ok1 hv => hb ps H0 qs H1 σ ok1 _ fun u e H2 se g2 ok2 hu => hc _ σ H2 ok2.ok _ fun p ys H3 np e3 hp hy => by
    refine ⟨v, u, .ref p, rfl, ?_⟩
    have ok3 := ((ok2.setv (hv.mono g2.same) hi fi).setv hu hj fj).seto (i := l) np e3 hp hy (by rw [List.length_set, List.length_set]; exact ll) hl fl
    refine hn d e sd se ps H0 (p :: qs) H3 _ D ok3 q1 fun qs2 σ2 H4 ρ2 ω2 n g ok4 => q2 qs2 σ2 H4 ρ2 ω2 n
      (((g1.trans g2).trans (⟨hid_same e3, fun q m => ?_, (Go.of (ps := ps) (qs := qs) e3).al⟩ : Go ps qs H2 (p :: qs) H3)).trans g) ok4
    rcases List.mem_cons.mp m with z | m
    · exact .inr (by rw [z]; exact np)
    · exact .inl m
/-- an item of an own list -/
theorem evq_item {i k n : Nat} {d : PyData} (hk : ω[n]? = some (i, ds)) (h : EvD tk ρ (nD k)) (hd : ds[k]? = some d) (hs : S d) : EvQ ls (tOp (rIx K) (tVar i) tk) ρ ω S := fun ps H0 qs H σ ok Q q => by
  obtain ⟨a, xs, h1, h2, h3, h4⟩ := ok.own n i ds hk
  refine ⟨.ref a, h2, h _ σ H ok.ok _ fun v H1 e1 hv => ?_⟩
  obtain ⟨x, g1, g2⟩ := (h4.mono (hid_same e1)).get hd
  exact .inl ⟨a, xs, k, x, rfl, of_int hv, SqL.of (e1 _ _ h3), atI_nat g1, q x d H1 hs (Go.of e1) (ok.mono e1) g2⟩
/-- an item of an own list is set -/
theorem svq_item {i k n : Nat} (hk : ω[n]? = some (i, ds)) (hv : EvQ ls te ρ ω S) (h : EvD tk ρ (nD k)) (hl : k < ds.length) (hn : ∀ d, S d → N ρ (ω.set n (i, ds.set k d))) : SvQ ls (tAsg te (gSub (tVar i) tk rSetL)) ρ ω R N := fun ps H0 qs H σ D ok q1 q2 =>
  hv ps H0 qs H σ ok _ fun v d H1 sd g1 ok1 hv1 => by
    obtain ⟨a, xs, h1, h2, h3, h4⟩ := ok1.own n i ds hk
    refine ⟨.ref a, h2, h _ σ H1 ok1.ok _ fun u H2 e2 hu => ?_⟩
    have ok2 := ok1.mono e2
    have hx : k < xs.length := by rw [h4.length]; exact hl
    refine ⟨a, xs, k, k, rfl, of_int hu, e2 _ _ h3, ?_, ?_⟩
    · unfold ixN
      rw [if_pos (by omega), if_pos (by omega), Int.toNat_natCast]
    · obtain ⟨o1, o2⟩ := ok2.put hk h1 (DtA.set (hv1.mono (hid_same e2)) k (h4.mono (hid_same e2)))
      exact q2 qs σ _ ρ _ (hn d sd) ((g1.trans (Go.of e2)).trans o2) o1
end
/-! ### what is bent -/
structure Bt (d c : PyData) : Prop where
  f : fine d = true → fine c = true
  w : wt c ≤ 2 * wt d + 100
  d : c.depth ≤ d.depth + 2
theorem fineA_append {ds es : List PyData} (h1 : fineA ds = true) (h2 : fineA es = true) : fineA (ds ++ es) = true := fineA_all.mpr fun d m => (List.mem_append.mp m).elim (fineA_all.mp h1 d) (fineA_all.mp h2 d)
theorem wtA_cut (k : Nat) (ds : List PyData) : wtA (ds.take k) + wtA (ds.drop k) = wtA ds := by rw [← wtA_append, List.take_append_drop]
theorem wtA_set : ∀ {ds : List PyData} {k : Nat} {x c : PyData}, ds[k]? = some x → wtA (ds.set k c) + wt x = wtA ds + wt c
  | [], _, _, _, h => by simp at h
  | d :: ds, 0, x, c, h => by
    have : d = x := by simpa using h
    subst this
    simp only [List.set_cons_zero, wtA]; omega
  | d :: ds, k + 1, x, c, h => by
    have := wtA_set (c := c) (show ds[k]? = some x by simpa using h)
    simp only [List.set_cons_succ, wtA]; omega
theorem wtA_rev (ds : List PyData) : wtA ds.reverse = wtA ds := by
  induction ds with
  | nil => rfl
  | cons d r ih => rw [List.reverse_cons, wtA_append, ih]; simp only [wtA]; omega
theorem bt_seq {d c : PyData} {ds es : List PyData} (hd : IsSeq d ds) (hc : IsSeq c es) (hf : fineA ds = true → fineA es = true) (hw : wtA es ≤ 2 * wtA ds + 100) (hp : PyData.depthAll es ≤ PyData.depthAll ds + 2) : Bt d c := by
  cases hd <;> cases hc <;> exact ⟨fun h => by simp only [fine] at h ⊢; exact hf h, by simp only [wt]; omega, by simp only [PyData.depth]; omega⟩
def bends : List PyData := [.int 0, .int 1, .int 2, .int 5, .int (-1), .bool true, .none, .str "a", .str "b", .str "", .str "low", .str "high", .str "A", .str "abcdefghi", .list [], .tuple [], .list [.int 0], .tuple [.list [], .int 0], .tuple [.int 0, .int 0]]
theorem bends_ok : ∀ c ∈ bends, fine c = true ∧ wt c ≤ 100 ∧ c.depth ≤ 2 := by
  have h : bends.all (fun c => fine c && decide (wt c ≤ 100) && decide (c.depth ≤ 2)) = true := by decide +kernel
  intro c hc
  have := List.all_eq_true.mp h c hc
  simp only [Bool.and_eq_true, decide_eq_true_eq] at this
  exact ⟨this.1.1, this.1.2, this.2⟩
def pBent (n : Nat) : PyData → Prop := fun d => Sm 14000 30 d ∧ d.depth + 1 ≤ n
def sBent (ds : List PyData) : DS := fun c => ∃ d, ds = [d] ∧ Bt d c
abbrev spBent (n : Nat) : Sp := spQ (p1 (pBent n)) sBent
abbrev N__law_bent : List Str := ["_law_pot_here", "_law_value", "_law_some", "_law_at", "_law_way", "_law_found"]
theorem sc__law_bent : FnScope N__law_bent ["_law_pot_here", "_law_value"] (defScope s__law_bent) := ⟨rfl, rfl, rfl, by decide +kernel, rfl, by decide +kernel, by decide +kernel⟩
theorem ok__law_bent (T : Txt K mg w aS) (F : Stands K mg "_law_bent" s__law_bent ["_law_pot_here", "_law_value"]) (C__law_draw : Cal P w K mg base "_law_draw" 1 ["_law_pot_here", "_law_many"] spDraw) (C__law_pick : Cal P w K mg base "_law_pick" 2 ["_law_pot_here", "_law_some"] spPick) : ∀ n, n ≤ 100 → Cal P w K mg base "_law_bent" (n + 3) ["_law_pot_here", "_law_value"] (spBent n)
  | 0, _ => (F.noneQ sc__law_bent fun ds ⟨d, _, _, h⟩ => by omega).up (by omega)
  | n + 1, n100 => by
    have C__law_bent := ok__law_bent T F C__law_draw C__law_pick n (by omega)
    have nd := sc__law_bent.nd
    refine F.pot sc__law_bent (fun ds h => by rw [p1_len h]; rfl) fun f cdv A outer s H E hr => ⟨_, (pss_cons (ps_if (PW.pt (pw_or (pt_not (pt_val (pe_callB (k_isiT (K := K) rfl) (by rfl) T.b_isinstance bt_isinstance (pa_cons (pv 1) (pa_cons (pe_tup (pa_cons (pe_bltn (v := .ty "list") (by rfl) T.b_list bt_list rfl) (pa_cons (pe_bltn (v := .ty "tuple") (by rfl) T.b_tuple bt_tuple rfl) pa_nil))) pa_nil))))) (pw_or1 (pt_cmpR op_eq (pe_callB (k_len (K := K) rfl) (by rfl) T.b_len bt_len (pa_cons (pv 1) pa_nil)) pe_int (nomark _))))) (pss_cons (ps_set (i := 2) nd rfl (by first | exact Or.inl rfl | exact Or.inr rfl) (pe_lst (pa_cons pe_int (pa_cons pe_int (pa_cons pe_int (pa_cons pe_int (pa_cons (pe_un un_neg pe_int) (pa_cons pe_bl (pa_cons pe_non (pa_cons pe_str (pa_cons pe_str (pa_cons pe_str (pa_cons pe_str (pa_cons pe_str (pa_cons pe_str (pa_cons pe_str (pa_cons (pe_lst pa_nil) (pa_cons (pe_tup pa_nil) (pa_cons (pe_lst (pa_cons pe_int pa_nil)) (pa_cons (pe_tup (pa_cons (pe_lst pa_nil) (pa_cons pe_int pa_nil))) (pa_cons (pe_tup (pa_cons pe_int (pa_cons pe_int pa_nil))) pa_nil)))))))))))))))))))))
        (pss_one (ps_ret (pe_cal C__law_pick hr (by omega) (by rfl) (pa_cons (pv 0) (pa_cons (pv 2) pa_nil)))))) pss_nil)
        (pss_cons (ps_par3 (i := 3) (j := 4) (l := 5) (by rfl) nd rfl rfl rfl (by decide) (by decide) (by decide) rfl rfl rfl (pa_cons (pe_cal C__law_draw hr (by omega) (by rfl) (pa_cons (pv 0) (pa_cons (pe_callB (k_len (K := K) rfl) (by rfl) T.b_len bt_len (pa_cons (pv 1) pa_nil)) pa_nil))) (pa_cons (pe_cal C__law_draw hr (by omega) (by rfl) (pa_cons (pv 0) (pa_cons pe_int pa_nil))) (pa_cons (pe_callTy (k_list (K := K) rfl) (by rfl) T.b_list bt_list (pa_cons (pv 1) pa_nil)) pa_nil))) (by rfl))
        (pss_cons (ps_if (pt_cmpR op_eq (pv 4) pe_int (nomark _)) (pss_one (ps_set (i := 5) nd rfl (by first | exact Or.inl rfl | exact Or.inr rfl) (pe_op op_cat (pe_slice (k_sl (K := K) rfl) (pv 5) po_none (po_some (pv 3))) (pe_slice (k_sl (K := K) rfl) (pv 5) (po_some (pe_op op_add (pv 3) pe_int)) po_none)))) (pss_one (ps_if (pt_cmpR op_eq (pv 4) pe_int (nomark _)) (pss_one (ps_set (i := 5) nd rfl (by first | exact Or.inl rfl | exact Or.inr rfl) (pe_op op_cat (pe_slice (k_sl (K := K) rfl) (pv 5) po_none (po_some (pe_op op_add (pv 3) pe_int))) (pe_slice (k_sl (K := K) rfl) (pv 5) (po_some (pv 3)) po_none)))) (pss_one (ps_if (pt_cmpR op_eq (pv 4) pe_int (nomark _)) (pss_one (ps_set (i := 5) nd rfl (by first | exact Or.inl rfl | exact Or.inr rfl) (pe_revL (pv 5)))) (pss_one (ps_if (pt_cmpR op_eq (pv 4) pe_int (nomark _)) (pss_one (ps_ret (pe_ifExp (pt_val (pe_callB (k_isi (K := K) rfl) (by rfl) T.b_isinstance bt_isinstance (pa_cons (pv 1) (pa_cons (pe_bltn (v := .ty "tuple") (by rfl) T.b_tuple bt_tuple rfl) pa_nil)))) (pv 5) (pe_callTy (k_tuple (K := K) rfl) (by rfl) T.b_tuple bt_tuple (pa_cons (pv 5) pa_nil))))) (pss_one (ps_asg (pe_cal C__law_bent hr (by omega) (by rfl) (pa_cons (pv 0) (pa_cons (pe_ix (k_ix (K := K) rfl) (pv 5) (pv 3) (fun _ _ => rfl)) pa_nil))) (pg_sub (pv 5) (pv 3) set_list))))))))))
        (pss_one (ps_ret (pe_ifExp (pt_val (pe_callB (k_isi (K := K) rfl) (by rfl) T.b_isinstance bt_isinstance (pa_cons (pv 1) (pa_cons (pe_bltn (v := .ty "tuple") (by rfl) T.b_tuple bt_tuple rfl) pa_nil)))) (pe_callTy (k_tuple (K := K) rfl) (by rfl) T.b_tuple bt_tuple (pa_cons (pv 5) pa_nil)) (pv 5))))))), fun p ds h => ?_⟩
    obtain ⟨d, rfl, hd, hn⟩ := h
    show SvQ [p] _ [none, some d, none, none, none, none] [] _ _
    have Sq : EvD (tCB (rIsiT K) (tCons (tVar 1) (tCons (tTup (tCons (tC (.ty "list")) (tCons (tC (.ty "tuple")) tNil))) tNil))) [none, some d, none, none, none, none] (.bool (isLst d || isTup d)) := ev_isi2 (ev_var rfl) (kit_lst hd.noDict) (kit_tup hd.noDict)
    have sm : ∀ {c}, c ∈ bends → sBent [d] c := fun {c} hc => by
      obtain ⟨h1, h2, h3⟩ := bends_ok c hc
      exact ⟨d, rfl, fun _ => h1, by omega, by omega⟩
    have pick : SvQ [p] (tSeq _ _) [none, some d, none, none, none, none] [] (sBent [d]) fun _ _ => False := svq_asg (i := 2) (S := fun x => x = .list bends) (evq_of (EvN.toD (en_lst
      (ea_cons ev_int (ea_cons ev_int (ea_cons ev_int (ea_cons ev_int (ea_cons (ev_neg ev_int) (ea_cons ev_bl (ea_cons ev_non (ea_cons ev_str (ea_cons ev_str (ea_cons ev_str (ea_cons ev_str (ea_cons ev_str (ea_cons ev_str (ea_cons ev_str (ea_cons (EvN.toD (en_lst ea_nil (by decide)))
      (ea_cons (ev_tup ea_nil (by decide)) (ea_cons (EvN.toD (en_lst (ea_one ev_int) (by decide))) (ea_cons (ev_tup (ea_two (EvN.toD (en_lst ea_nil (by decide))) ev_int) (by decide)) (ea_one (ev_tup (ea_two ev_int ev_int) (by decide))))))))))))))))))))) (by decide))) rfl) (.inr (by decide)) (by simp) fun x e => by
        subst e
        exact svq_ret (evq_imp (evq_pick (te := tVar 2) (E := E0) (ev_var rfl) (.l _) (by decide) (by decide)) fun c hc => sm hc)
    rcases seq_dec d hd.noDict with ⟨es, hes⟩ | hno
    · have hl := hd.len hes
      have sqT : (isLst d || isTup d) = true := by cases hes <;> rfl
      have L0 : EvT (tOr (tNot (tB _)) (tTest (tOp rEq (tCB (rLenA K) (tCons (tVar 1) tNil)) (tC (.int 0))))) [none, some d, none, none, none, none] (decide ((es.length : Int) = 0)) := et_orF (et_notT ((et_B Sq).is sqT)) (et_test (ev_op (ev_cb (ea_one (ev_var rfl)) (rc_len hes)) ev_int rv_eqI))
      by_cases h0 : es.length = 0
      · exact svq_whenT (etq_of (L0.is (decide_eq_true (by omega))) rfl) pick
      refine svq_whenF (etq_of (L0.is (decide_eq_false (by omega))) rfl) ?_
      refine svq_par3 (es := es) (evq_draw (m := es.length) (ev_cb (ea_one (ev_var rfl)) (rc_len hes)) (by omega) (by omega)) (evq_draw (m := 9) ev_int (by decide) (by decide)) (en_list (ev_var rfl) hes) (by decide) (by decide) (by simp) (.inr (by decide)) (.inr (by decide)) (.inr (by decide)) (by simp) (by simp) (by simp) fun x y ⟨k, hk, ex⟩ ⟨r, hr9, ey⟩ => ?_
      subst ex ey
      show SvQ [p] _ [none, some d, none, some (nD k), some (nD r), none] [(5, es)] _ _
      have Wd : ∀ (z : Nat) b, decide (r = z) = b → ∀ fo, EvT (tTest (tOp rEq (tVar 4) (tC (.int (z : Int))))) [none, some d, none, some (nD k), some (nD r), fo] b := fun z b e fo => (et_test (ev_op (ev_var rfl) ev_int rv_eqI)).is (by rw [← e, eqN]; by_cases h : r = z <;> simp [h])
      have Wq : ∀ (z : Nat) b, decide (r = z) = b → EtQ [p] (tTest (tOp rEq (tVar 4) (tC (.int (z : Int))))) [none, some d, none, some (nD k), some (nD r), none] [(5, es)] fun c => c = b := fun z b e => etq_of (Wd z b e none) rfl
      have isT : ∀ fo, EvD (tCB (rIsi K) (tCons (tVar 1) (tCons (tC (.ty "tuple")) tNil))) [none, some d, none, some (nD k), some (nD r), fo] (.bool (isTup d)) := fun fo => ev_isi (ev_var rfl) (kit_tup hd.noDict)
      have hget : es[k]? = some es[k] := List.getElem?_eq_getElem hk
      have hmem : es[k] ∈ es := List.getElem_mem hk
      have endT : ∀ fs, Bt d (like d fs) → SvQ [p] (tRet (tIf (tB (tCB (rIsi K) (tCons (tVar 1) (tCons (tC (.ty "tuple")) tNil)))) (tCB (rTupO K) (tCons (tVar 5) tNil)) (tVar 5))) [none, some d, none, some (nD k), some (nD r), some (.list fs)] [] (sBent [d]) fun _ _ => False := fun fs hb => by
        refine svq_ret (evq_of (d := like d fs) (ev_if (et_B (isT _)) (fun z => ?_) fun z => ?_) ⟨d, rfl, hb⟩)
        · cases hes with
          | l => cases z
          | t => exact ev_tupOf (ev_var rfl) (.l _)
        · cases hes with
          | l => exact ev_var rfl
          | t => cases z
      have chain : ∀ (N : Rho → Om → Prop), True := fun _ => trivial
      have r5 : r = 0 ∨ r = 1 ∨ r = 2 ∨ r = 3 ∨ 4 ≤ r := by omega
      have seqN : ∀ {ts fs}, Bt d (like d fs) → SvQ [p] ts [none, some d, none, some (nD k), some (nD r), none] [(5, es)] (sBent [d]) (fun a b => a = [none, some d, none, some (nD k), some (nD r), some (.list fs)] ∧ b = []) → SvQ [p] (tSeq ts (tRet (tIf (tB (tCB (rIsi K) (tCons (tVar 1) (tCons (tC (.ty "tuple")) tNil)))) (tCB (rTupO K) (tCons (tVar 5) tNil)) (tVar 5)))) [none, some d, none, some (nD k), some (nD r), none] [(5, es)] (sBent [d]) fun _ _ => False := fun {ts fs} hb h => svq_seq1 h (endT fs hb)
      have F5 : EvD (tVar 5) [none, some d, none, some (nD k), some (nD r), some (.list es)] (.list es) := ev_var rfl
      have K3 : EvD (tVar 3) [none, some d, none, some (nD k), some (nD r), some (.list es)] (nD k) := ev_var rfl
      have K4 : EvD (tOp (rI0 fun i j => .int (i + j)) (tVar 3) (tC (.int 1))) [none, some d, none, some (nD k), some (nD r), some (.list es)] (nD (k + 1)) := (ev_op K3 ev_int rv_I).is (by simp [nD])
      have fA : fineA es = true := (hd.seq hes).1
      have sub : ∀ fs : List PyData, (∀ x ∈ fs, x ∈ es) → wtA fs ≤ 2 * wtA es + 100 → ∀ c, IsSeq c fs → Bt d c := fun fs hm hw c hc => bt_seq hes hc (fun _ => fineA_all.mpr fun x hx => fineA_all.mp fA x (hm x hx)) hw (by
        have : PyData.depthAll fs ≤ PyData.depthAll es := depA_le fun x hx => depA_mem (hm x hx)
        omega)
      have wc := wtA_cut k es
      have wc1 := wtA_cut (k + 1) es
      have noneIs : ∀ fo : Option PyData, True := fun _ => trivial
      rcases r5 with h | h | h | h | h
      · refine seqN (fs := es.take k ++ es.drop (k + 1)) (sub _ (fun x hx => (List.mem_append.mp hx).elim List.mem_of_mem_take List.mem_of_mem_drop) (by rw [wtA_append]; omega) _ (like_seq hes _)) ?_
        refine svq_if (Wq 0 true (decide_eq_true h)) (fun _ => svq_freeze ?_) fun z => (nomatch z)
        exact svq_set (S := fun c => c = .list (es.take k ++ es.drop (k + 1))) (evq_of (EvN.toD (en_cat (ev_toE F5 K3) (ev_fromE F5 K4) (by rw [List.length_take, List.length_drop]; omega))) rfl) (.inr (by decide)) (by simp) fun c e => by subst e; exact ⟨rfl, rfl⟩
      · refine seqN (fs := es.take (k + 1) ++ es.drop k) (sub _ (fun x hx => (List.mem_append.mp hx).elim List.mem_of_mem_take List.mem_of_mem_drop) (by rw [wtA_append]; omega) _ (like_seq hes _)) ?_
        refine svq_if (Wq 0 false (decide_eq_false (by omega))) (fun z => (nomatch z)) fun _ => svq_if (Wq 1 true (decide_eq_true h)) (fun _ => svq_freeze ?_) fun z => (nomatch z)
        exact svq_set (S := fun c => c = .list (es.take (k + 1) ++ es.drop k)) (evq_of (EvN.toD (en_cat (ev_toE F5 K4) (ev_fromE F5 K3) (by rw [List.length_take, List.length_drop]; omega))) rfl) (.inr (by decide)) (by simp) fun c e => by subst e; exact ⟨rfl, rfl⟩
      · refine seqN (fs := es.reverse) (sub _ (fun x hx => List.mem_reverse.mp hx) (by rw [wtA_rev]; omega) _ (like_seq hes _)) ?_
        refine svq_if (Wq 0 false (decide_eq_false (by omega))) (fun z => (nomatch z)) fun _ => svq_if (Wq 1 false (decide_eq_false (by omega))) (fun z => (nomatch z)) fun _ => svq_if (Wq 2 true (decide_eq_true h)) (fun _ => svq_freeze ?_) fun z => (nomatch z)
        exact svq_set (S := fun c => c = .list es.reverse) (evq_of (EvN.toD (en_rev F5)) rfl) (.inr (by decide)) (by simp) fun c e => by subst e; exact ⟨rfl, rfl⟩
      · refine svq_stop (svq_if (Wq 0 false (decide_eq_false (by omega))) (fun z => (nomatch z)) fun _ => svq_if (Wq 1 false (decide_eq_false (by omega))) (fun z => (nomatch z)) fun _ => svq_if (Wq 2 false (decide_eq_false (by omega))) (fun z => (nomatch z)) fun _ => svq_if (Wq 3 true (decide_eq_true h)) (fun _ => svq_freeze ?_) fun z => (nomatch z))
        cases hes with
        | l => exact svq_ret (evq_of (ev_ifF (et_B (isT _)) (ev_tupOf F5 (.l _))) ⟨_, rfl, sub _ (fun x hx => hx) (by omega) _ (.t _)⟩)
        | t => exact svq_ret (evq_of (ev_ifT (et_B (isT _)) F5) ⟨_, rfl, sub _ (fun x hx => hx) (by omega) _ (.l _)⟩)
      · have hx := hd.mem hes hmem
        have hxd : (es[k]).depth + 1 ≤ d.depth := by
          have h1 := depA_mem hmem
          cases hes <;> simp only [PyData.depth] <;> omega
        refine svq_seq (N := fun a b => ∃ c, Bt es[k] c ∧ a = [none, some d, none, some (nD k), some (nD r), none] ∧ b = [(5, es.set k c)]) (svq_if (Wq 0 false (decide_eq_false (by omega))) (fun z => (nomatch z)) fun _ => svq_if (Wq 1 false (decide_eq_false (by omega))) (fun z => (nomatch z)) fun _ => svq_if (Wq 2 false (decide_eq_false (by omega))) (fun z => (nomatch z)) fun _ => svq_if (Wq 3 false (decide_eq_false (by omega))) (fun z => (nomatch z)) fun _ => ?_) fun a b ⟨c, hc, ea, eb⟩ => ?_
        · refine svq_item (n := 0) (S := Bt es[k]) rfl (evq_callQ (T := fun ds => ds = [es[k]]) (eaq_one (evq_item (n := 0) rfl (ev_var rfl) hget rfl)) fun ds e => ⟨⟨_, e, hx, by omega⟩, fun c ⟨x, e2, hc⟩ => ?_⟩) (ev_var rfl) hk fun c hc => ⟨c, hc, rfl, rfl⟩
          rw [e] at e2
          have : es[k] = x := (List.cons.inj e2).1
          rw [this]; exact hc
        · subst ea eb
          have hw := wtA_set (c := c) hget
          have hm := wtA_mem hmem
          refine svq_freeze (endT (es.set k c) (bt_seq hes (like_seq hes _) (fun _ => fineA_all.mpr fun x hx2 => ?_) (by have := hc.w; omega) (depA_le fun x hx2 => ?_)))
          · rcases List.mem_or_eq_of_mem_set hx2 with h | h
            · exact fineA_all.mp fA x h
            · rw [h]; exact hc.f (fineA_all.mp fA _ hmem)
          · rcases List.mem_or_eq_of_mem_set hx2 with h | h
            · have := depA_mem h; omega
            · rw [h]
              have h1 := hc.d
              have h2 := depA_mem hmem
              omega
    · exact svq_whenT (etq_of (et_orT (et_notF ((et_B Sq).is (flat_seq hno hd.noDict)))) rfl) pick
end
end Pm
namespace Pm
open PySem PySem.Spec PyProof.Rows L2
section
variable {P : Program} {w : World} {K : PySem.W.Frag} {mg : Str → Option Value} {base : Heap} {aS : Addr}

theorem k_sum {X : Cx} {K : PySem.W.Frag} (h : X.K = K) (hc : X.calm = true) : CallR X (.builtin "sum") (rSum K) := by subst h; exact cr_sum hc
/-- a number, whatever is made meanwhile -/
def EvI (H : Hp) (σ : L2.St) (te : TE) (i : Int) : Prop := ∀ H1, Same H H1 → ∀ Q : VK, (∀ H2, Same H H2 → Q (.int i) H2) → te σ H1 Q
section
variable {H : Hp} {σ : L2.St} {te ta tb : TE} {i j : Int}
theorem evi_c : EvI H σ (tC (.int i)) i := fun H1 e Q q => q H1 e
theorem evi_var {n : Nat} (h : σ[n]? = some (some (.int i))) : EvI H σ (tVar n) i := fun H1 e Q q => ⟨_, h, q H1 e⟩
theorem evi_op {g : Int → Int → Int} (ha : EvI H σ ta i) (hb : EvI H σ tb j) : EvI H σ (tOp (rI0 fun i j => .int (g i j)) ta tb) (g i j) := fun H1 e Q q => ha H1 e _ fun H2 e2 => hb H2 e2 _ fun H3 e3 => ⟨i, j, rfl, rfl, q H3 e3⟩
theorem evi_opC {C : Int → Int → Prop} {g : Int → Int → Int} (ha : EvI H σ ta i) (hb : EvI H σ tb j) (hc : C i j) : EvI H σ (tOp (rI C fun i j => .int (g i j)) ta tb) (g i j) := fun H1 e Q q => ha H1 e _ fun H2 e2 => hb H2 e2 _ fun H3 e3 => ⟨i, j, rfl, rfl, hc, q H3 e3⟩
theorem evi_is {i' : Int} (h : EvI H σ te i) (e : i = i') : EvI H σ te i' := e ▸ h
end
def spPot (K : PySem.W.Frag) : Sp := fun vs H Q _ => ∃ (a : Addr) (ns : List Int), vs = [.ref a, .int 0] ∧ SqL K H a (ns.map .int) ∧ ∀ q H2, H q = none → Same H H2 → PotAt q H2 → Q (.ref q) H2
abbrev N__law_pot : List Str := ["_law_script", "_law_k", "_law_cell"]
theorem sc__law_pot : FnScope N__law_pot ["_law_script", "_law_k"] (defScope s__law_pot) := ⟨rfl, rfl, rfl, by decide +kernel, rfl, by decide +kernel, by decide +kernel⟩
theorem ok__law_pot (T : Txt K mg w aS) (F : Stands K mg "_law_pot" s__law_pot ["_law_script", "_law_k"]) : Cal P w K mg base "_law_pot" 1 ["_law_script", "_law_k"] (spPot K) := by
  have nd := sc__law_pot.nd
  refine F.cal sc__law_pot (fun vs H Q E ⟨a, ns, e, _⟩ => by rw [e]; rfl) fun f cdv A outer s H E hr => ⟨_, (pss_cons (ps_set (i := 2) nd rfl (by first | exact Or.inl rfl | exact Or.inr rfl) (pe_op op_add (pe_op op_add (pe_op op_mul pe_int (pv 1)) pe_int) (pe_op op_mod (pe_callB (k_sum (K := K) rfl rfl) (by rfl) T.b_sum bt_sum (pa_cons (pe_slice (k_sl (K := K) rfl) (pv 0) po_none (po_some pe_int)) pa_nil)) pe_int)))
        (pss_cons (ps_if (pt_cmpR op_lt (pv 1) (pe_callB (k_len (K := K) rfl) (by rfl) T.b_len bt_len (pa_cons (pv 0) pa_nil)) (nomark _)) (pss_one (ps_set (i := 2) nd rfl (by first | exact Or.inl rfl | exact Or.inr rfl) (pe_callB call_abs (by rfl) T.b_abs bt_abs (pa_cons (pe_ix (k_ix (K := K) rfl) (pv 0) (pv 1) (fun _ _ => rfl)) pa_nil)))) pss_nil)
        (pss_one (ps_ret (pe_lst (pa_cons (pe_callB (call_max2 rfl) (by rfl) T.b_max bt_max (pa_cons pe_int (pa_cons (pe_op op_sub (pv 2) (pe_op op_pow pe_int pe_int)) pa_nil))) (pa_cons (pe_op op_add (pe_op op_mod (pe_op op_add (pe_op op_add (pe_op op_mul (pe_op op_mod (pv 2) pe_int) pe_int) (pe_op op_mul pe_int (pv 1))) pe_int) pe_int) pe_int) pa_nil))))))), fun vs Q h => ?_⟩
  obtain ⟨a, ns, rfl, hS, q⟩ := h
  have tail : ∀ (c : Int) H1, Same H H1 → tRet (tLst (tCons (tCB (fun xs H Q => ∃ i j, xs = [.int i, .int j] ∧ Q (.int (if j > i then j else i)) H) (tCons (tC (.int 0)) (tCons (tOp (rI0 fun i j => .int (i - j)) (tVar 2) (tOp (rI CPow fun i j => .int (i ^ j.toNat)) (tC (.int 10)) (tC (.int 18)))) tNil)))
      (tCons (tOp (rI0 fun i j => .int (i + j)) (tOp (rI (fun _ j => 0 < j) fun i j => .int (i % j)) (tOp (rI0 fun i j => .int (i + j)) (tOp (rI0 fun i j => .int (i + j)) (tOp (rI CMul fun i j => .int (i * j)) (tOp (rI (fun _ j => 0 < j) fun i j => .int (i % j)) (tVar 2) (tC (.int 2147483549))) (tC (.int 1187))) (tOp (rI CMul fun i j => .int (i * j)) (tC (.int 31)) (tVar 1))) (tC (.int 59))) (tC (.int 2147483563))) (tC (.int 1))) tNil)))
      { nx := fun _ H' => Q .non H', rt := Q } [some (.ref a), some (.int 0), some (.int c)] H1 := fun c H1 e1 => by
    have p1 : EvI H [some (.ref a), some (.int 0), some (.int c)] (tOp (rI0 fun i j => .int (i - j)) (tVar 2) (tOp (rI CPow fun i j => .int (i ^ j.toNat)) (tC (.int 10)) (tC (.int 18)))) _ := evi_op (evi_var rfl) (evi_opC evi_c evi_c ⟨by decide, by decide, by decide⟩)
    have p2 : EvI H [some (.ref a), some (.int 0), some (.int c)] (tOp (rI0 fun i j => .int (i + j)) (tOp (rI (fun _ j => 0 < j) fun i j => .int (i % j)) (tOp (rI0 fun i j => .int (i + j)) (tOp (rI0 fun i j => .int (i + j)) (tOp (rI CMul fun i j => .int (i * j)) (tOp (rI (fun _ j => 0 < j) fun i j => .int (i % j)) (tVar 2) (tC (.int 2147483549))) (tC (.int 1187))) (tOp (rI CMul fun i j => .int (i * j)) (tC (.int 31)) (tVar 1))) (tC (.int 59))) (tC (.int 2147483563))) (tC (.int 1))) _ :=
      evi_op (evi_opC (evi_op (evi_op (evi_opC (evi_opC (evi_var rfl) evi_c (show (0 : Int) < 2147483549 by decide)) evi_c (.inr ⟨by decide, by decide⟩)) (evi_opC evi_c (evi_var rfl) (.inr ⟨by decide, by decide⟩))) evi_c) evi_c (show (0 : Int) < 2147483563 by decide)) evi_c
    refine p1 H1 e1 _ fun H2 e2 => ⟨_, _, rfl, p2 H2 e2 _ fun H3 e3 => ⟨by show 2 ≤ sizeLine; decide, fun t nt => q t _ (e3.free nt) (e3.trans (same_upd nt)) ⟨_, _, ?_, ?_, ?_, upd_same⟩⟩⟩
    · split <;> omega
    · have := Int.emod_nonneg (c % 2147483549 * 1187 + 31 * 0 + 59) (show (2147483563 : Int) ≠ 0 by decide)
      omega
    · have := Int.emod_lt_of_pos (c % 2147483549 * 1187 + 31 * 0 + 59) (show (0 : Int) < 2147483563 by decide)
      omega
  have e1 : EvI H [some (.ref a), some (.int 0), none] (tCB (rSum K) (tCons (tSl (rSlE K) (tVar 0) tNoPart (tPart (tC (.int 1)))) tNil)) (ns.take 1).sum := fun H1 e Q q => by
    refine ⟨.ref a, rfl, 1, rfl, .inl ⟨a, _, rfl, e.seq hS, fun t nt => ⟨t, ns.take 1, rfl, SqL.of ?_, q _ (e.trans (same_upd nt))⟩⟩⟩
    rw [upd_same, show (1 : Int) = ((1 : Nat) : Int) from rfl, cut_to, List.map_take]
  have p0 := evi_op (g := fun i j => i + j) (evi_op (g := fun i j => i + j) (evi_opC (C := CMul) (g := fun i j => i * j) (evi_c (H := H) (σ := [some (.ref a), some (.int 0), none]) (i := 443)) (evi_var (n := 1) (i := 0) rfl) (.inr ⟨by decide, by decide⟩)) (evi_c (i := 857))) (evi_opC (C := fun _ j => 0 < j) (g := fun i j => i % j) e1 (evi_c (i := 1000003)) (by decide))
  refine p0 H (Same.refl H) _ fun H1 s1 => ?_
  have hS1 := s1.seq hS
  refine ⟨.int 0, rfl, .ref a, rfl, .ref a, ns.length, rfl, .inl ⟨_, hS1, by rw [List.length_map]⟩, 0, _, rfl, rfl, _, rfl, ?_⟩
  cases ns with
  | nil => exact iteFb (by simp) (tail _ H1 s1)
  | cons z r => exact iteTb (decide_eq_true (by simp)) ⟨.ref a, rfl, .int 0, rfl, .inl ⟨a, _, 0, .int z, rfl, rfl, hS1, atI_nat (j := 0) rfl, z, rfl, tail _ H1 s1⟩⟩
end
end Pm
/-! Defs that show data: their promise holds where no guard runs. -/
namespace Pm
open PySem PySem.Spec PyProof.Rows L2
/-- as FnOk's run, for a caller without guards -/
def RunG (P : Program) (w : World) (K : PySem.W.Frag) (mg : Str → Option Value) (base : Heap) (k : Nat) (f : Addr) (fd : FuncData) (pn : List Str) (sp : Sp) : Prop :=
  ∀ (A : Around) (ou : List Env) (s : Shared) (H : Hp) (ar : Args) (us : List Value) (vs : List V) (Q : VK) (E : XK), A.guards = some [] → Room k A → Env0 P w K mg base A ou s H → BindsTo s fd ar (pn.zip us) → Vals vs us → sp vs H Q E →
    codeAny (model P w) A (.call (.ref f) ar) (CR CX0 ou P w H s Q E) s
structure CalG (P : Program) (w : World) (K : PySem.W.Frag) (mg : Str → Option Value) (base : Heap) (x : Str) (k : Nat) (pn : List Str) (sp : Sp) : Prop where
  ex : ∃ f fd, RunG P w K mg base k f fd pn sp ∧ (∀ vs H Q E, sp vs H Q E → vs.length = pn.length) ∧ Binds K fd pn [] ∧ mg x = some (.ref f) ∧ PySem.W.keepIn K (.ref f) = true
section
variable {P : Program} {w : World} {K : PySem.W.Frag} {mg : Str → Option Value} {base : Heap}
/-- a body's end is a call's end -/
theorem end_of {X : Cx} {ou : List Env} {H : Hp} {s s' : Shared} {Q : VK} {σ : L2.St} {H2 : Hp} {v : V} {u : Value} (ep : X.prog = P) (ew : X.w = w) (eo : X.fs = frs ou) (ex : X.ex = []) (eH : X.H_0 = H) (es : X.s_0 = s) (J : Inv X [] σ H2 s') (rv : RelV v u) (q : Q v H2) : CE ou P w H s Q u s' := by
  subst ep ew eH es
  exact ⟨v, H2, J.os, J.bare, by have := J.base; rw [eo, ex] at this; exact this, J.hok, rv, q⟩
theorem Stands.calG {x : Str} {st : Stmt} {N pn : List Str} {k : Nat} {sp : Sp} (F : Stands K mg x st pn) (S : FnScope N pn (defScope st)) (len : ∀ vs H Q E, sp vs H Q E → vs.length = pn.length)
    (h : ∀ (f : Addr) (cdv : Value) (A : Around) (outer : List Env) (s : Shared) (H : Hp) (E : XK), A.guards = some [] → Room k (A.deeper (envOfC x (defScope st) s.heap.objs.size f cdv)) →
      ∃ t, PSs (cxOf CX0 P w K mg base N x (defScope st) f cdv A outer s H E).nox (defBody st) t ∧ ∀ vs (Q : VK), sp vs H Q E → t { nx := fun _ H' => Q .non H', rt := Q } (L2.start N vs) H) : CalG P w K mg base x (k + 1) pn sp := by
  obtain ⟨f, fd, F, b, g⟩ := F.ex
  have kp := F.kp
  obtain ⟨oc, od, dV, kV, doc, pm, an, cdv, ct, osl, rfl, lk, hcd, -, -⟩ := F.ex
  refine ⟨f, _, fun A ou s H ar us vs Q E hgu hroom env0 hbd rel hsp => ?_, len, b, g, kp⟩
  have hlen : vs.length = pn.length := len vs H Q E hsp
  have there : ∀ a o, base.get? a = some o → s.heap.get? a = some o := fun a o z => (env0.bs a o z).1
  have kin : K.In s.heap := env0.mod.kin.keeps there
  refine codeAny_call_function hroom.depth (kin f _ lk) rfl S.co S.gen rfl (PySem.W.codeRec_of kin hcd) (hbd _ _ _ _ ?_)
  refine wpAny_newFunctionEnv_cells S.kind (fun y hy => ?_) fun env he s2 inC => ?_
  · rcases S.par y.1 (List.of_mem_zip hy).1 with loc | cel
    · exact Or.inl loc
    · exact Or.inr ⟨cel, PySem.W.cellsFrom_some _ _ _ (Or.inl cel)⟩
  subst he
  refine ⟨(env0.mod.nolimit.keeps there).keeps inC.toInCall.keep, codeAny_func ?_⟩
  obtain ⟨t, ht, hq⟩ := h f cdv A ou s H E hgu (hroom.deeper _)
  have I0 := inv_start (CX := CX0) (E := E) S hroom.hd env0 hlen rel inC
  refine wpAny_mono (ht.nox.run [] s2 _ H _ I0 (hq vs Q hsp)) (fun fl s3 z => ?_) fun e s3 z => z
  cases fl with
  | ret u =>
    obtain ⟨v, σ2, H2, J, rv, q⟩ := z
    exact end_of rfl rfl rfl rfl rfl rfl J rv q
  | next =>
    obtain ⟨σ2, H2, J, q⟩ := z
    exact end_of (v := .non) rfl rfl rfl rfl rfl rfl J rfl q
  | brk =>
    obtain ⟨σ2, H2, J, q⟩ := z
    exact q.elim
  | cont =>
    obtain ⟨σ2, H2, J, q⟩ := z
    exact q.elim
end
section
variable {X : Cx} {x : Str} {j k : Nat} {pn : List Str} {sp : Sp} {e : Expr} {es : List Expr} {t : TA} {p pos : Pos}
theorem Room.less {j k : Nat} {A : Around} (r : Room k A) (h : j ≤ k) : Room j A := r.mono h
/-- f(e, ..), f such a def -/
theorem pe_calG (C : CalG X.prog X.w X.K X.mg X.base x j pn sp) (hgu : X.A.guards = some []) (hr : Room k X.A) (hj : j ≤ k) (hg : Gl X x) (ha : PA X (e :: es) t) (hdb : (x == ("__debug__" : Str)) = false := by decide)
    (hst : starEach (e :: es) X.env = (false, eval e X.env) :: starEach es X.env := by rfl) (hpl : (backTo pos (starEach es X.env)).any (·.1) = false := by rfl) : PE X (.Call (.Name x p) (e :: es) [] pos) (tCall sp [] E0 t) := by
  obtain ⟨f, fd, run, len, b, g, kp⟩ := C.ex
  constructor
  intro pins s σ H Q I h
  apply wpAny_Call_Name_kw
  refine ld_glob I hg g ?_ hdb
  refine PySem.W.callWith_K (h₀ := X.base) I.ok.mod.kin kp ?_ hst hpl
  refine thn (ha.run pos pins s σ H _ I h) fun us s2 z => ?_
  obtain ⟨vs, H2, I2, rel, q⟩ := z
  rw [List.append_nil] at q
  have l1 : us.length = pn.length := (Paired.length rel).symm.trans (len vs H2 Q E0 q)
  have bt := b s2 us I2.kIn (by rw [List.append_nil]; exact l1)
  rw [List.append_nil] at bt
  refine ⟨I2.kIn, wpAny_call (codeAny_mono (run X.A X.stack s2 H2 ⟨us, []⟩ us vs Q E0 hgu (hr.mono hj) I2.env0 bt rel q) fun r s3 z => ?_)⟩
  cases r with
  | error e => exact (show False from z).elim
  | ok fl => cases fl with
    | ret u => exact I2.after z
    | _ => exact z.elim
/-- f(k = v, ..) alone -/
theorem pe_callN0 {CX : CXT} {f : Addr} {fd : FuncData} {ks : List Str} {E : XK} {kws : List Keyword} {tk : TA} {g : List Value → List Value → List Value} {gV : List V → List V → List V} (G : FnOk X.prog X.w X.K X.mg X.base CX k f fd pn sp) (hr : Room k X.A) (hg : Gl X x) (hm : X.mg x = some (.ref f)) (kp : PySem.W.keepIn X.K (.ref f) = true)
    (hb : KBn X.K fd pn 0 ks g gV) (hx : Passes CX X E) (hkw : PK X kws tk) (hall : (backToKw pos (keywordEach kws X.env)).all (·.1.isSome) = true := by rfl) (hks : (backToKw pos (keywordEach kws X.env)).filterMap (·.1) = ks := by rfl) (hdb : (x == ("__debug__" : Str)) = false := by decide)
    (hpl : ((backTo pos (starEach [] X.env)).any (·.1) || (backToKw pos (keywordEach kws X.env)).any (·.1.isNone)) = false := by rfl) : PE X (.Call (.Name x p) [] kws pos) (tCallN 0 ks.length sp gV E tNil tk) := by
  constructor
  intro pins s σ H Q I h
  apply wpAny_Call_Name_kw
  refine ld_glob I hg hm ?_ hdb
  refine PySem.W.callWith_KW0 (h₀ := X.base) I.ok.mod.kin kp hall ?_ hpl
  refine thn (hkw.run pos pins s σ H _ I h) fun ws s2 z => ?_
  obtain ⟨zs, H2, I2, rz, l1, l2, q⟩ := z
  refine ⟨I2.kIn, ?_⟩
  rw [hks]
  exact run_fnN (us := []) (vs := []) G hr hb hx I2 .nil rz rfl l2 q
end
end Pm
namespace Pm
open PySem PySem.Spec PyProof.Rows L2
section
variable {P : Program} {w : World} {K : PySem.W.Frag} {mg : Str → Option Value} {base : Heap} {aS : Addr}

abbrev N__law_heard : List Str := ["_law_kind_here", "_law_value", "_law_told_here", "e"]
theorem sc__law_heard : FnScope N__law_heard ["_law_kind_here", "_law_value"] (defScope s__law_heard) := ⟨rfl, rfl, rfl, by decide +kernel, rfl, by decide +kernel, by decide +kernel⟩
theorem u100 {k : Nat} {A : Around} (r : Room k A) : A.units + 100 < cLine := by have := r.un; omega
def heardF (d e : PyData) : PyData := if isSt (kindOf d) e then .list [told (kindOf d) e] else .list [.str e.shown, .str "none"]
abbrev spHeard : Sp := spF (p2 pKS) (f2 heardF)
section
variable {C fI : Addr}
abbrev tbH (K : PySem.W.Frag) (C : Addr) : WX → TS := fun W => tDrop (tBM K "list" rAppend (tVar 2) (tCons (tCallS (spTS C) (WE W) (tCons (tVar 0) (tCons (tVar 1) tNil))) tNil))
abbrev tsH (K : PySem.W.Frag) (C : Addr) : Addr → Value → Option Addr → TS := fun a cls d => tAsg (tLst (tCons (tCB (rRepr K) (tCons (tXf a cls d C "value" (tVar 3)) tNil)) (tCons (tC (.str "none")) tNil))) (gName 2)
theorem ok__law_heard (xs : Xs K mg C fI) (T : Txt K mg w aS) (F : Stands K mg "_law_heard" s__law_heard ["_law_kind_here", "_law_value"]) (C_told_state : CalX P w K mg base "told_state" 24 ["kind", "state"] (spTS C)) : CalG P w K mg base "_law_heard" 25 ["_law_kind_here", "_law_value"] spHeard := by
  have nd := sc__law_heard.nd
  refine F.calG sc__law_heard (fun vs H Q E ⟨ps, ds, al, hd, hp, _⟩ => by rw [hd.length, p2_len hp]; rfl) fun f cdv A outer s H E hgu hr => ⟨_,
    pss_cons (ps_set (i := 2) nd rfl (by first | exact Or.inl rfl | exact Or.inr rfl) (pe_lst pa_nil))
    (pss_cons (ps_try_as (i := 3) (tb := tbH K C) (ts := tsH K C) (Wout := fun _ _ _ _ => False) rfl rfl nd rfl rfl ⟨rfl, by decide, Or.inl xs.glo⟩ takes0
      (fun W pn xe tk _ => pss_one (ps_expr (pe_bm PySem.F.plainAttrs_list PySem.F.slot_list_append PySem.F.type_list_append mt_append (pv 2) (pa_cons (pe_calX C_told_state tk hr (by omega) (by rfl) (pa_cons (pv 0) (pa_cons (pv 1) pa_nil))) pa_nil))))
      (fun a oe cls d pn hz hf => pss_one (ps_set (i := 2) nd rfl (by first | exact Or.inl rfl | exact Or.inr rfl) (pe_lst (pa_cons (pe_callB (k_repr (K := K) rfl (by exact hgu) (by have z := u100 hr; exact z)) (by rfl) T.b_repr bt_repr (pa_cons (pe_xf xs.xf xs.noV hz hf (pv 3)) pa_nil)) (pa_cons pe_str pa_nil))))))
    (pss_one (ps_ret (pv 2)))), fun vs Q h => ?_⟩
  obtain ⟨ps, ds, al, hd, ⟨d, e, rfl, k, hk, hdp, hz, rfl, he⟩, q⟩ := h
  obtain ⟨v0, v1, rfl, hv0, hv1⟩ := two_of hd
  have q : ∀ v H2, Same H H2 → Dt (hid ps H2) (if isSt k e then .list [told k e] else .list [.str e.shown, .str "none"]) v → Q v H2 := fun v H2 e2 hv => q v H2 e2 (by
    show Dt _ (heardF k.data e) v
    unfold heardF
    rw [kindOf_data]; exact hv)
  refine ⟨by show 0 ≤ sizeLine; decide, fun p np => ?_⟩
  have np1 : p ∉ ps := fun m => al p m np
  have e1 : Same H (upd H p (.lst [])) := same_upd np
  have al1 : ∀ a ∈ p :: ps, upd H p (.lst []) a ≠ none := fun a m z => by
    rcases List.mem_cons.mp m with h | h
    · rw [h, upd_same] at z; cases z
    · exact al_mono e1 al a h z
  refine ⟨.ref p, rfl, .inl ⟨rfl, [], SqL.of upd_same⟩, v0, rfl, v1, rfl, p :: ps, k, e, al1, DtA.cons (dt_under np hv0) (DtA.cons (dt_under np hv1) DtA.nil), hk, hdp, hz, he, fun hs v H2 e2 hv => ?_, fun hs dd fs v H2 e2 g1 g2 g3 => ?_⟩
  · have hp2 : H2 p = some (.lst []) := e2 _ _ upd_same
    refine ⟨p, [], v, rfl, rfl, hp2, by decide, .ref p, rfl, q _ _ (same_mut (e1.trans e2) np) ?_⟩
    rw [if_pos hs]
    have hh : hid (p :: ps) (upd H2 p (.lst ([] ++ [v]))) = hid (p :: ps) H2 := hid_upd List.mem_cons_self
    refine dt_lst np1 upd_same (DtA.cons (Dt.mono (hid_less fun a m => List.mem_cons_of_mem _ m) (by rw [hh]; exact hv)) DtA.nil)
  · refine ⟨true, xs.exm, fun _ a0 na => ?_, fun z => (nomatch z)⟩
    have hsh := he.shw (by decide) (by decide)
    refine ⟨.ref a0, rfl, rfl, rfl, dd, fs, v, rfl, g1, g2, v, e, rfl, (g3.mono (fun _ _ h => (of_hid h).1)).dp, hsh.s, hsh.n, hsh.z, hsh.d, by show 2 ≤ sizeLine; decide, fun p2 np2 => ?_⟩
    have e3 : Same H (upd H2 p2 (.lst [.str e.shown, .str "none"])) := (e1.trans e2).trans (same_upd np2)
    refine ⟨.ref p2, rfl, q _ _ e3 ?_⟩
    rw [if_neg (by rw [hs]; exact Bool.false_ne_true)]
    exact dt_lst (fun m => al_mono (e1.trans e2) al p2 m np2) upd_same (DtA.cons dt_str (DtA.cons dt_str DtA.nil))
end
end
end Pm
namespace Pm
open PySem PySem.Spec PyProof.Rows L2
section
variable {P : Program} {w : World} {K : PySem.W.Frag} {mg : Str → Option Value} {base : Heap} {aS : Addr}

theorem Stands.pureG {x : Str} {st : Stmt} {N pn : List Str} {k : Nat} {pre : List PyData → Prop} {g : List PyData → PyData} (F : Stands K mg x st pn) (S : FnScope N pn (defScope st)) (len : ∀ ds, pre ds → ds.length = pn.length)
    (h : ∀ (f : Addr) (cdv : Value) (A : Around) (outer : List Env) (s : Shared) (H : Hp) (E : XK), A.guards = some [] → Room k (A.deeper (envOfC x (defScope st) s.heap.objs.size f cdv)) →
      ∃ t, PSs (cxOf CX0 P w K mg base N x (defScope st) f cdv A outer s H E).nox (defBody st) t ∧ ∀ ds, pre ds → SvO t (rho0 N ds) (.ret (g ds))) : CalG P w K mg base x (k + 1) pn (spF pre g) := by
  refine F.calG S (fun vs H Q E ⟨ps, ds, al, hd, hp, _⟩ => by rw [hd.length]; exact len ds hp) fun f cdv A outer s H E hgu hr => ?_
  obtain ⟨t, h1, h2⟩ := h f cdv A outer s H E hgu hr
  exact ⟨t, h1, fun vs Q ⟨ps, ds, al, hd, hp, q⟩ => h2 ds hp ps _ H _ (dta_ok al hd) q⟩
theorem Stands.potG {x : Str} {st : Stmt} {N pn : List Str} {k : Nat} {pre : List PyData → Prop} {S' : List PyData → DS} (F : Stands K mg x st pn) (S : FnScope N pn (defScope st)) (len : ∀ ds, pre ds → ds.length + 1 = pn.length)
    (h : ∀ (f : Addr) (cdv : Value) (A : Around) (outer : List Env) (s : Shared) (H : Hp) (E : XK), A.guards = some [] → Room k (A.deeper (envOfC x (defScope st) s.heap.objs.size f cdv)) →
      ∃ t, PSs (cxOf CX0 P w K mg base N x (defScope st) f cdv A outer s H E).nox (defBody st) t ∧ ∀ p ds, pre ds → SvQ [p] t (rhoP N ds) [] (S' ds) fun _ _ => False) : CalG P w K mg base x (k + 1) pn (spQ pre S') := by
  refine F.calG S (fun vs H Q E ⟨p, ps, ds, ws, e, mp, pt, al, hd, hp, _⟩ => by rw [e, List.length_cons, hd.length]; exact len ds hp) fun f cdv A outer s H E hgu hr => ?_
  obtain ⟨t, h1, h2⟩ := h f cdv A outer s H E hgu hr
  refine ⟨t, h1, fun vs Q ⟨p, ps, ds, ws, e, mp, pt, al, hd, hp, q⟩ => ?_⟩
  rw [e]
  exact h2 p ds hp ps H [] H _ _ (startP_ok mp pt al hd) (fun v d H2 hs sw pp hv => q v d H2 hs sw (pp p (List.mem_singleton.mpr rfl)) hv) fun _ _ _ _ _ n => n.elim
/-- is_state by name -/
theorem ok_is_stateK (T : Txt K mg w aS) (F : Stands K mg "is_state" s_is_state ["kind", "value"]) (C_want_kind : Cal P w K mg base "want_kind" 7 ["value"] spWant) (C_is_state_value : Cal P w K mg base "is_state_value" 22 ["kind", "value"] (spIsv 4)) :
    ∃ f fd, FnOk P w K mg base CX0 23 f fd ["kind", "value"] spIsS ∧ KBn K fd ["kind", "value"] 0 ["value", "kind"] (fun us ws => ws.reverse) (fun vs zs => zs.reverse) ∧ mg "is_state" = some (.ref f) ∧ PySem.W.keepIn K (.ref f) = true := by
  obtain ⟨f, fd, Fd, b, g⟩ := F.ex
  have nd := sc_is_state.nd
  have kp := Fd.kp
  have G : FnOk P w K mg base CX0 23 f fd ["kind", "value"] spIsS := by
    refine Fd.ok sc_is_state (fun vs H Q E ⟨ps, ds, al, hd, hp, _⟩ => by rw [hd.length, p2_len hp]; rfl) fun cdv A outer s H vs Q E hr ⟨ps, ds, al, hd, hp, q⟩ => ⟨_, PSs.nox (pss_one (ps_ret (pe_cal C_is_state_value hr (by omega) (by rfl) (pa_cons (pe_cal C_want_kind hr (by omega) (by rfl) (pa_cons (pv 0) pa_nil)) (pa_cons (pv 1) pa_nil))))), ?_⟩
    obtain ⟨d, e, rfl, k, hk, hdp, hz, rfl, he⟩ := hp
    exact sv_ret (ev_callIs (d := isF k.data e) (ea_two (ev_callIs (ea_one (ev_var rfl)) ⟨_, rfl, k, hk, hdp, hz, rfl⟩ rfl) (ev_var rfl)) ⟨_, _, rfl, k, hk, hdp, rfl, he⟩ rfl) ps _ H _ (show Ok ps H _ [some k.data, some e] from dta_ok (N := N_is_state) al hd) q
  refine ⟨f, fd, G, ?_, g, kp⟩
  obtain ⟨oc, od, dV, kV, doc, pm, an, cdv, ct, osl, rfl, lk, hcd, hD, hK⟩ := Fd.ex
  refine ⟨fun s us ws _ l1 l2 => ?_, fun _ r2 => r2.reverse⟩
  rcases hD with ⟨_, rfl⟩ | ⟨e, _⟩
  · match us, ws, l1, l2 with
    | [], [a, b], _, _ => exact .of_eq rfl
  · exact absurd rfl e
theorem ev_callN0 {ρ : Rho} {tk : TA} {pre : List PyData → Prop} {f : List PyData → PyData} {a b d : PyData} {E : XK} (h : EvA tk ρ [a, b]) (hp : pre [b, a]) (e : f [b, a] = d) : EvD (tCallN 0 2 (spF pre f) (fun vs zs => zs.reverse) E tNil tk) ρ d := fun ps σ H ok Q q => h ps σ H ok _ fun zs H1 e1 hz => by
  obtain ⟨v, u, rfl, h1, h2⟩ := two_of hz
  exact ⟨rfl, rfl, ps, [b, a], al_mono e1 ok.al, DtA.cons h2 (DtA.cons h1 DtA.nil), hp, fun v H2 e2 hv => q v H2 (e1.trans e2) (e ▸ hv)⟩
abbrev spVR : Sp := spF (p2 pKS) fun _ => .bool true
def heardD (k : Kd) (e : PyData) : PyData := if isSt k e then .list [told k e] else .list [.str e.shown, .str "none"]
theorem heardF_is (k : Kd) (e : PyData) : heardF k.data e = heardD k e := by unfold heardF heardD; rw [kindOf_data]
theorem heard_shw {k : Kd} {e : PyData} (he : Sv e) : Shw (heardD k e) := by
  unfold heardD
  cases h : isSt k e
  · rw [if_neg Bool.false_ne_true]
    exact shw_two he (by decide)
  · rw [if_pos rfl]
    exact Shw.one ((told_sm k he h).sm he) (by decide) (by decide)
theorem self_ne (x : Str) : (!decide (x = x)) = false := by simp
theorem self_eq (x : Str) : decide (x = x) = true := by simp
abbrev N__law_value_right : List Str := ["_law_kind_here", "_law_value", "_law_shown", "_law_due"]
theorem sc__law_value_right : FnScope N__law_value_right ["_law_kind_here", "_law_value"] (defScope s__law_value_right) := ⟨rfl, rfl, rfl, by decide +kernel, rfl, by decide +kernel, by decide +kernel⟩
theorem ok__law_value_right (T : Txt K mg w aS) (F : Stands K mg "_law_value_right" s__law_value_right ["_law_kind_here", "_law_value"])
    (KS : ∃ f fd, FnOk P w K mg base CX0 23 f fd ["kind", "value"] spIsS ∧ KBn K fd ["kind", "value"] 0 ["value", "kind"] (fun us ws => ws.reverse) (fun vs zs => zs.reverse) ∧ mg "is_state" = some (.ref f) ∧ PySem.W.keepIn K (.ref f) = true)
    (C_is_state : Cal P w K mg base "is_state" 23 ["kind", "value"] spIsS) (C__law_is : Cal P w K mg base "_law_is" 22 ["_law_kind_here", "_law_value"] (spIsv 4)) (C__law_told : Cal P w K mg base "_law_told" 5 ["_law_kind_here", "_law_state_here"] (spToldS 4))
    (C__law_heard : CalG P w K mg base "_law_heard" 25 ["_law_kind_here", "_law_value"] spHeard) : CalG P w K mg base "_law_value_right" 26 ["_law_kind_here", "_law_value"] spVR := by
  obtain ⟨fK, fdK, GK, bK, gK, kK⟩ := KS
  have nd := sc__law_value_right.nd
  refine F.pureG sc__law_value_right (fun ds h => p2_len h) fun f cdv A outer s H E hgu hr => ⟨_, (pss_cons (ps_par (i := 2) (j := 3) (by rfl) nd rfl rfl (by decide) rfl rfl (pa_cons (pe_callB (k_repr (K := K) rfl hgu (u100 hr)) (by rfl) T.b_repr bt_repr (pa_cons (pv 1) pa_nil)) (pa_cons (pe_cal C__law_is hr (by omega) (by rfl) (pa_cons (pv 0) (pa_cons (pv 1) pa_nil))) pa_nil)) (by rfl))
        (pss_cons (ps_if (PW.pt (pw_or (pt_cmpR op_ne (pe_callB (k_repr (K := K) rfl hgu (u100 hr)) (by rfl) T.b_repr bt_repr (pa_cons (pe_lst (pa_cons (pe_cal C_is_state hr (by omega) (by rfl) (pa_cons (pv 0) (pa_cons (pv 1) pa_nil))) (pa_cons (pe_callN0 (ks := ["value", "kind"]) (E := E0) GK (hr.mono (by omega)) (by rfl) gK kK bK pass0 (pk_cons (pv 1) (pk_cons (pv 0) pk_nil))) pa_nil))) pa_nil)) (pe_callB (k_repr (K := K) rfl hgu (u100 hr)) (by rfl) T.b_repr bt_repr (pa_cons (pe_lst (pa_cons (pv 3) (pa_cons (pv 3) pa_nil))) pa_nil)) (nomark _)) (pw_or1 (pt_cmpR op_ne (pe_callB (k_repr (K := K) rfl hgu (u100 hr)) (by rfl) T.b_repr bt_repr (pa_cons (pv 1) pa_nil)) (pv 2) (nomark _))))) (pss_one (ps_ret pe_bl)) pss_nil)
        (pss_one (ps_ret (pe_cmpR op_eq (pe_callB (k_repr (K := K) rfl hgu (u100 hr)) (by rfl) T.b_repr bt_repr (pa_cons (pe_calG C__law_heard hgu hr (by omega) (by rfl) (pa_cons (pv 0) (pa_cons (pv 1) pa_nil))) pa_nil)) (pe_callB (k_repr (K := K) rfl hgu (u100 hr)) (by rfl) T.b_repr bt_repr (pa_cons (pe_ifExp (pt_val (pv 3)) (pe_lst (pa_cons (pe_cal C__law_told hr (by omega) (by rfl) (pa_cons (pv 0) (pa_cons (pv 1) pa_nil))) pa_nil)) (pe_lst (pa_cons (pv 2) (pa_cons pe_str pa_nil)))) pa_nil)) (nomark _)))))), fun ds h => ?_⟩
  obtain ⟨d, e, rfl, k, hk, hdp, hz, rfl, he⟩ := h
  have hsh := he.shw (show 30000 ≤ 100000 by decide) (by decide)
  show SvO _ [some k.data, some e, none, none] _
  refine sv_seq (sv_par (ea_two (ev_cb (ea_one (ev_var rfl)) (rc_repr hsh)) (ev_callIs (ea_two (ev_var rfl) (ev_var rfl)) ⟨_, _, rfl, k, hk, hdp, rfl, he⟩ (isF_is k e)))) ?_
  show SvO _ [some k.data, some e, some (.str e.shown), some (.bool (isSt k e))] _
  have pk : p2 pKS [k.data, e] := ⟨_, _, rfl, k, hk, hdp, hz, rfl, he⟩
  have bs := shw_bools (isSt k e) (isSt k e)
  refine sv_whenF (et_orF ((et_test (ev_op (ev_cb (ea_one (EvN.toD (en_lst (ea_two (ev_callIs (ea_two (ev_var rfl) (ev_var rfl)) pk (isF_is k e)) (ev_callN0 (ea_two (ev_var rfl) (ev_var rfl)) pk (isF_is k e))) (by simp)))) (rc_repr bs)) (ev_cb (ea_one (EvN.toD (en_lst (ea_two (ev_var rfl) (ev_var rfl)) (by simp)))) (rc_repr bs)) rv_neS)).is (self_ne _))
    ((et_test (ev_op (ev_cb (ea_one (ev_var rfl)) (rc_repr hsh)) (ev_var rfl) rv_neS)).is (self_ne _))) ?_
  have hh := heard_shw (k := k) he
  refine sv_ret ((ev_op (ev_cb (ea_one (ev_callIs (ea_two (ev_var rfl) (ev_var rfl)) pk (heardF_is k e))) (rc_repr hh)) (ev_cb (ea_one (ev_if (d := heardD k e) (et_B (ev_var rfl)) (fun hs => ?_) fun hs => ?_)) (rc_repr hh)) rv_eqS).is (congrArg PyData.bool (self_eq _)))
  · refine (EvN.toD (en_lst (ea_one (ev_callIs (ea_two (ev_var rfl) (ev_var rfl)) ⟨_, _, rfl, k, hk, hdp, rfl, hs, he⟩ (toldF_is k e))) (by simp))).is ?_
    unfold heardD; rw [if_pos hs]
  · refine (EvN.toD (en_lst (ea_two (ev_var rfl) ev_str) (by simp))).is ?_
    unfold heardD; rw [if_neg (by rw [hs]; exact Bool.false_ne_true)]
abbrev N__law_right : List Str := ["_law_pot_here", "_law_kind_here", "_law_turn", "_law_state_here", "_law_given", "_law_again", "_law_bent_here", "_law_other"]
theorem sc__law_right : FnScope N__law_right ["_law_pot_here"] (defScope s__law_right) := ⟨rfl, rfl, rfl, by decide +kernel, rfl, by decide +kernel, by decide +kernel⟩
theorem evq_andT {ls : List Addr} {ta tb : TE} {ρ : Rho} {ω : Om} {S : DS} (ha : EvQ ls ta ρ ω fun d => d = .bool true) (hb : EvQ ls tb ρ ω S) : EvQ ls (tAndV ta tb) ρ ω S := fun ps H0 qs H σ ok Q q => ha ps H0 qs H σ ok _ fun v d H1 hd g1 ok1 hv => by
  subst hd
  exact ⟨true, of_bl hv, iteT (hb ps H0 qs H1 σ ok1 Q fun v d H2 sd g2 ok2 hv2 => q v d H2 sd (g1.trans g2) ok2 hv2)⟩
theorem Bt.sm {d c : PyData} {n m : Nat} (h : Bt d c) (hd : Sm n m d) : Sm (2 * n + 100) (m + 2) c := ⟨h.f hd.f, by have := h.w; have := hd.w; omega, by have := h.d; have := hd.d; omega⟩
theorem Dr.sm {k : Kd} {d : PyData} (h : Dr k d) (hk : k.dep ≤ 3) : Sm 400 6 d := by
  have h1 : 2 ^ (k.dep - 1) ≤ 2 ^ 2 := Nat.pow_le_pow_right (by decide) (by omega)
  exact ⟨h.f, by have := h.w; omega, by have := h.d; omega⟩
abbrev spRight : Sp := spQ (fun ds => ds = []) fun _ d => d = .bool true
theorem ok__law_right (T : Txt K mg w aS) (F : Stands K mg "_law_right" s__law_right ["_law_pot_here"]) (C__law_draw : Cal P w K mg base "_law_draw" 1 ["_law_pot_here", "_law_many"] spDraw) (C__law_kind : Cal P w K mg base "_law_kind" 6 ["_law_pot_here", "_law_depth"] (spKind 3))
    (C_least_state : Cal P w K mg base "least_state" 8 ["kind"] spLeastS) (C__law_least : Cal P w K mg base "_law_least" 5 ["_law_kind_here"] (spLeast 4)) (C__law_value_right : CalG P w K mg base "_law_value_right" 26 ["_law_kind_here", "_law_value"] spVR) (C__law_state : Cal P w K mg base "_law_state" 8 ["_law_pot_here", "_law_kind_here"] (spState 4))
    (C__law_as_tuples : Cal P w K mg base "_law_as_tuples" 9 ["_law_value"] (spAsT 8)) (C__law_is : Cal P w K mg base "_law_is" 22 ["_law_kind_here", "_law_value"] (spIsv 4)) (C__law_bent : Cal P w K mg base "_law_bent" 15 ["_law_pot_here", "_law_value"] (spBent 12)) : CalG P w K mg base "_law_right" 27 ["_law_pot_here"] spRight := by
  have nd := sc__law_right.nd
  refine F.potG sc__law_right (fun ds h => by rw [h]; rfl) fun f cdv A outer s H E hgu hr => ⟨_, (pss_cons (ps_set (i := 1) nd rfl (by first | exact Or.inl rfl | exact Or.inr rfl) (pe_cal C__law_kind hr (by omega) (by rfl) (pa_cons (pv 0) (pa_cons (pe_op op_add pe_int (pe_cal C__law_draw hr (by omega) (by rfl) (pa_cons (pv 0) (pa_cons pe_int pa_nil)))) pa_nil))))
        (pss_cons (ps_if (PW.pt (pw_or (pt_cmpR op_ne (pe_callB (k_repr (K := K) rfl hgu (u100 hr)) (by rfl) T.b_repr bt_repr (pa_cons (pe_cal C_least_state hr (by omega) (by rfl) (pa_cons (pv 1) pa_nil)) pa_nil)) (pe_callB (k_repr (K := K) rfl hgu (u100 hr)) (by rfl) T.b_repr bt_repr (pa_cons (pe_cal C__law_least hr (by omega) (by rfl) (pa_cons (pv 1) pa_nil)) pa_nil)) (nomark _)) (pw_or1 (pt_not (pt_val (pe_calG C__law_value_right hgu hr (by omega) (by rfl) (pa_cons (pv 1) (pa_cons (pe_cal C__law_least hr (by omega) (by rfl) (pa_cons (pv 1) pa_nil)) pa_nil)))))))) (pss_one (ps_ret pe_bl)) pss_nil)
        (pss_cons (ps_for PassesOwn.never rfl (pi_range1 (by rfl) T.b_range (pa_cons pe_int pa_nil)) (pg_name (i := 2) nd rfl (by first | exact Or.inl rfl | exact Or.inr rfl)) (pss_cons (ps_set (i := 3) nd rfl (by first | exact Or.inl rfl | exact Or.inr rfl) (pe_cal C__law_state hr (by omega) (by rfl) (pa_cons (pv 0) (pa_cons (pv 1) pa_nil))))
        (pss_cons (ps_set (i := 4) nd rfl (by first | exact Or.inl rfl | exact Or.inr rfl) (pe_ifExp (pt_cmpR op_eq (pe_cal C__law_draw hr (by omega) (by rfl) (pa_cons (pv 0) (pa_cons pe_int pa_nil))) pe_int (nomark _)) (pe_cal C__law_as_tuples hr (by omega) (by rfl) (pa_cons (pv 3) pa_nil)) (pv 3)))
        (pss_cons (ps_if (PW.pt (pw_or (pt_not (pt_val (pe_cal C__law_is hr (by omega) (by rfl) (pa_cons (pv 1) (pa_cons (pv 4) pa_nil))))) (pw_or1 (pt_not (pt_val (pe_calG C__law_value_right hgu hr (by omega) (by rfl) (pa_cons (pv 1) (pa_cons (pv 4) pa_nil)))))))) (pss_one (ps_ret pe_bl)) pss_nil)
        (pss_one (ps_for PassesOwn.never rfl (pi_range1 (by rfl) T.b_range (pa_cons pe_int pa_nil)) (pg_name (i := 5) nd rfl (by first | exact Or.inl rfl | exact Or.inr rfl)) (pss_cons (ps_set (i := 6) nd rfl (by first | exact Or.inl rfl | exact Or.inr rfl) (pe_cal C__law_bent hr (by omega) (by rfl) (pa_cons (pv 0) (pa_cons (pv 4) pa_nil))))
        (pss_one (ps_if (PW.pt (pw_or (pt_not (pt_val (pe_calG C__law_value_right hgu hr (by omega) (by rfl) (pa_cons (pv 1) (pa_cons (pv 6) pa_nil))))) (pw_or1 (pt_not (pt_val (pe_calG C__law_value_right hgu hr (by omega) (by rfl) (pa_cons (pv 1) (pa_cons (pe_cal C__law_bent hr (by omega) (by rfl) (pa_cons (pv 0) (pa_cons (pv 6) pa_nil))) pa_nil)))))))) (pss_one (ps_ret pe_bl)) pss_nil)))))))))
        (pss_cons (ps_set (i := 7) nd rfl (by first | exact Or.inl rfl | exact Or.inr rfl) (pe_cal C__law_kind hr (by omega) (by rfl) (pa_cons (pv 0) (pa_cons pe_int pa_nil))))
        (pss_one (ps_ret (pe_and (pe_calG C__law_value_right hgu hr (by omega) (by rfl) (pa_cons (pv 1) (pa_cons (pe_cal C__law_state hr (by omega) (by rfl) (pa_cons (pv 0) (pa_cons (pv 7) pa_nil))) pa_nil))) (pe_one (pe_calG C__law_value_right hgu hr (by omega) (by rfl) (pa_cons (pv 1) (pa_cons (pe_cal C__law_least hr (by omega) (by rfl) (pa_cons (pv 7) pa_nil)) pa_nil))))))))))), fun p ds h => ?_⟩
  subst h
  show SvQ [p] _ [none, none, none, none, none, none, none, none] [] _ _
  have Kq : ∀ {ρ te}, EvQ [p] te ρ [] (fun d => ∃ m : Nat, 1 ≤ m ∧ m ≤ 3 ∧ d = nD m) → EvQ [p] (tCall (spKind 3) [] E0 (tCons (tVar 0) (tCons te tNil))) ρ [] fun d => ∃ k : Kd, k.ok = true ∧ k.dep ≤ 3 ∧ k.size ≤ 12 ∧ d = k.data := fun {ρ te} h =>
    evq_callQ (T := fun ds => ∃ m : Nat, 1 ≤ m ∧ m ≤ 3 ∧ ds = [nD m]) (eaq_one (evq_imp h fun d ⟨m, h1, h2, e⟩ => ⟨m, h1, h2, by rw [e]⟩)) fun ds ⟨m, h1, h2, e⟩ => ⟨⟨m, h1, h2, e⟩, fun d hd => by
      obtain ⟨k, k1, k2, k3, k4⟩ := sKdU_is (e ▸ hd)
      have : 2 ^ m ≤ 2 ^ 3 := Nat.pow_le_pow_right (by decide) h2
      exact ⟨k, k1, by omega, by omega, k4⟩⟩
  have VR : ∀ {ρ te tk} (k : Kd) (S : DS), k.ok = true → k.dep ≤ 3 → k.size ≤ 12 → EvD tk ρ k.data → EvQ [p] te ρ [] S → (∀ d, S d → Sv d) → EvQ [p] (tCall spVR [] E0 (tCons tk (tCons te tNil))) ρ [] fun d => d = .bool true := fun {ρ te tk} k S h1 h2 h3 hk he hs =>
    evq_callP (T := fun ds => ∃ d, Sv d ∧ ds = [k.data, d]) (eaq_cons (S := fun d => d = k.data) (evq_of hk rfl) fun d e => eaq_one (evq_imp he fun d hd => ⟨d, hs d hd, by rw [e]⟩)) fun ds ⟨d, hd, e⟩ => ⟨⟨_, _, e, k, h1, by omega, h3, rfl, hd⟩, rfl⟩
  have VD : ∀ {ρ te tk} (k : Kd) e, k.ok = true → k.dep ≤ 3 → k.size ≤ 12 → EvD tk ρ k.data → EvD te ρ e → Sv e → EvD (tCall spVR [] E0 (tCons tk (tCons te tNil))) ρ (.bool true) := fun {ρ te tk} k e h1 h2 h3 hk he hs => ev_callIs (ea_two hk he) ⟨_, _, rfl, k, h1, by omega, h3, rfl, hs⟩ rfl
  have Ls : ∀ {ρ tk} (k : Kd), k.ok = true → k.dep ≤ 3 → EvD tk ρ k.data → EvD (tCall (spLeast 4) [] E0 (tCons tk tNil)) ρ (least k) := fun {ρ tk} k h1 h2 hk => ev_callIs (ea_one hk) ⟨_, rfl, k, h1, by omega, rfl⟩ (leastF_is k)
  have St : ∀ {ρ te} (k : Kd), k.ok = true → k.dep ≤ 3 → EvD te ρ k.data → EvQ [p] (tCall (spState 4) [] E0 (tCons (tVar 0) (tCons te tNil))) ρ [] (Dr k) := fun {ρ te} k h1 h2 h => evq_callQ (T := fun ds => ds = [k.data]) (eaq_of (ea_one h) rfl) fun ds e => ⟨⟨_, e, k, h1, by omega, rfl⟩, fun d hd => sSt_is (e ▸ hd)⟩
  have Bn : ∀ {ρ te} e n m, Sm n m e → n ≤ 14000 → m ≤ 11 → EvD te ρ e → EvQ [p] (tCall (spBent 12) [] E0 (tCons (tVar 0) (tCons te tNil))) ρ [] (Bt e) := fun {ρ te} e n m hs h1 h2 h => evq_callQ (T := fun ds => ds = [e]) (eaq_of (ea_one h) rfl) fun ds e2 => ⟨⟨_, e2, hs.le h1 (by omega), by have := hs.d; omega⟩, fun d ⟨x, e3, hd⟩ => by
    rw [e2] at e3
    rw [(List.cons.inj e3).1]; exact hd⟩
  refine svq_asg (Kq (evq_op (S1 := fun d => d = .int 1) (S2 := fun d => ∃ r < 3, d = nD r) (evq_of ev_int rfl) (evq_draw (m := 3) ev_int (by decide) (by decide)) fun x y e1 ⟨r, hr3, e2⟩ => by
    subst e1 e2
    exact ⟨_, rv_I, r + 1, by omega, by omega, by simp [nD]; omega⟩)) (.inr (by decide)) (by simp) fun d ⟨k, k1, k2, k3, e⟩ => ?_
  subst e
  show SvQ [p] _ [none, some k.data, none, none, none, none, none, none] [] _ _
  have ls := least_sm (k := k) (by omega)
  have lsv : Sv (least k) := ls.le (by decide) (by decide)
  have lsh := ls.shw (show 200 ≤ 100000 by decide) (by decide)
  refine svq_whenF (etq_of (et_orF ((et_test (ev_op (ev_cb (ea_one (ev_callIs (ea_one (ev_var rfl)) ⟨_, rfl, k, k1, by omega, k3, rfl⟩ (leastF_is k))) (rc_repr lsh)) (ev_cb (ea_one (Ls k k1 k2 (ev_var rfl))) (rc_repr lsh)) rv_neS)).is (self_ne _)) (et_notT (et_B (VD k _ k1 k2 k3 (ev_var rfl) (Ls k k1 k2 (ev_var rfl)) lsv)))) rfl) ?_
  refine svq_seq1 (ρ' := [none, some k.data, none, none, none, none, none, none]) (ω' := []) (svq_for (vs := [2]) (List.range 2) nD (fun i a b => a = [none, some k.data, none, none, none, none, none, none] ∧ b = []) (fun x ρ => ρ.set 2 (some (nD x))) (is_rangeN (ea_one ev_int) (by decide)) ⟨rfl, rfl⟩ (fun i x a b hx ⟨ea, eb⟩ => ⟨gt_name (by decide), by rw [eb]; simp⟩) (.inr (by decide)) (fun i x a b hx ⟨ea, eb⟩ => ?_) fun a b h => h) ?_
  · subst ea eb
    refine svq_asg (St k k1 k2 (ev_var rfl)) (.inr (by decide)) (by simp) fun d hd => ?_
    have dsm := hd.sm k2
    have dsv : Sv d := dsm.le (by decide) (by decide)
    refine svq_asg (S := fun g => isSt k g = true ∧ Sm 400 6 g) (evq_if (B := fun _ => True) (etq_test (S := fun d => ∃ b : Bool, d = .bool b) (evq_op (S1 := fun d => ∃ r < 3, d = nD r) (S2 := fun d => d = .int 0) (evq_draw (m := 3) ev_int (by decide) (by decide)) (evq_of ev_int rfl) fun u v ⟨r, _, e1⟩ e2 => by
      subst e1 e2; exact ⟨_, rv_eqI, _, rfl⟩) fun d ⟨b, e⟩ => ⟨b, e, trivial⟩) (fun _ => evq_of (d := asT d) (ev_callIs (ea_one (ev_var rfl)) ⟨_, rfl, dsv, by have := dsm.d; omega⟩ rfl) ⟨(asT_st k d hd.s).1, (asT_le d).sm dsm⟩) fun _ => evq_of (ev_var rfl) ⟨hd.s, dsm⟩) (.inr (by decide)) (by simp) fun g ⟨g1, g2⟩ => ?_
    have gsv : Sv g := g2.le (by decide) (by decide)
    show SvQ [p] _ [none, some k.data, some (nD x), some d, some g, none, none, none] [] _ _
    refine svq_whenF (etq_of (et_orF (et_notT (et_B (ev_callIs (d := .bool true) (ea_two (ev_var rfl) (ev_var rfl)) ⟨_, _, rfl, k, k1, by omega, rfl, gsv⟩ ((isF_is k g).trans (congrArg PyData.bool g1))))) (et_notT (et_B (VD k g k1 k2 k3 (ev_var rfl) (ev_var rfl) gsv)))) rfl) ?_
    refine svq_less (svq_for (vs := [5]) (List.range 2) nD (fun i a b => a = [none, some k.data, some (nD x), some d, some g, none, none, none] ∧ b = []) (fun x ρ => ρ.set 5 (some (nD x))) (is_rangeN (ea_one ev_int) (by decide)) ⟨rfl, rfl⟩ (fun i x a b hx ⟨ea, eb⟩ => ⟨gt_name (by decide), by rw [eb]; simp⟩) (.inr (by decide)) (fun i y a b hx ⟨ea, eb⟩ => ?_) fun a b ⟨ea, eb⟩ => ⟨by rw [ea]; exact (by (repeat first | exact Rle.nil | refine Rle.same ?_ | refine Rle.drop ?_)), eb⟩)
    subst ea eb
    refine svq_asg (Bn g 400 6 g2 (by decide) (by decide) (ev_var rfl)) (.inr (by decide)) (by simp) fun c hc => ?_
    have csm := hc.sm g2
    have csv : Sv c := csm.le (by decide) (by decide)
    show SvQ [p] _ [none, some k.data, some (nD x), some d, some g, some (nD y), some c, none] [] _ _
    refine svq_less (svq_if (B := fun b => b = false) (etq_or (B1 := fun b => b = false) (B2 := fun b => b = false) (etq_of (et_notT (et_B (VD k c k1 k2 k3 (ev_var rfl) (ev_var rfl) csv))) rfl) (etq_not (B1 := fun b => b = true) (etq_B (VR k (Bt c) k1 k2 k3 (ev_var rfl) (Bn c _ _ csm (by decide) (by decide) (ev_var rfl)) fun d hd => (hd.sm csm).le (by decide) (by decide)) fun d e => ⟨true, e, rfl⟩) fun b e => by rw [e]; rfl) (fun z => nomatch z) fun b e => e) (fun z => nomatch z) fun _ => svq_next ⟨(by (repeat first | exact Rle.nil | refine Rle.same ?_ | refine Rle.drop ?_)), rfl⟩)
  · refine svq_asg (Kq (evq_of (ev_int (i := 2)) ⟨2, by decide, by decide, rfl⟩)) (.inr (by decide)) (by simp) fun d ⟨o, o1, o2, o3, e⟩ => ?_
    subst e
    have ls := least_sm (k := o) (by omega)
    exact svq_ret (evq_andT (VR k (Dr o) k1 k2 k3 (ev_var rfl) (St o o1 o2 (ev_var rfl)) fun d hd => (hd.sm o2).le (by decide) (by decide)) (evq_of (VD k _ k1 k2 k3 (ev_var rfl) (Ls o o1 o2 (ev_var rfl)) (ls.le (by decide) (by decide))) rfl))
abbrev N_law : List Str := ["_law_script"]
theorem sc_law : FnScope N_law ["_law_script"] (defScope s_law) := ⟨rfl, rfl, rfl, by decide +kernel, rfl, by decide +kernel, by decide +kernel⟩
def spLaw (K : PySem.W.Frag) : Sp := fun vs H Q _ => ∃ (a : Addr) (ns : List Int), vs = [.ref a] ∧ SqL K H a (ns.map .int) ∧ ∀ H2, Q (.bl true) H2
theorem ok_law (T : Txt K mg w aS) (F : Stands K mg "law" s_law ["_law_script"]) (C__law_pot : Cal P w K mg base "_law_pot" 1 ["_law_script", "_law_k"] (spPot K)) (C__law_right : CalG P w K mg base "_law_right" 27 ["_law_pot_here"] spRight) : CalG P w K mg base "law" 28 ["_law_script"] (spLaw K) := by
  have nd := sc_law.nd
  refine F.calG sc_law (fun vs H Q E ⟨a, ns, e, _⟩ => by rw [e]; rfl) fun f cdv A outer s H E hgu hr => ⟨_, (pss_one (ps_ret (pe_calG C__law_right hgu hr (by omega) (by rfl) (pa_cons (pe_cal C__law_pot hr (by omega) (by rfl) (pa_cons (pv 0) (pa_cons pe_int pa_nil))) pa_nil)))), fun vs Q h => ?_⟩
  obtain ⟨a, ns, rfl, hS, q⟩ := h
  refine ⟨.ref a, rfl, a, ns, rfl, hS, fun p H2 np e2 hp => ?_⟩
  refine ⟨p, [p], [], [], rfl, List.mem_singleton.mpr rfl, hp, fun b m z => ?_, DtA.nil, rfl, fun v d H3 hd _ _ hv => ?_⟩
  · rw [List.mem_singleton.mp m] at z
    obtain ⟨_, _, _, _, _, z2⟩ := hp
    rw [z] at z2; cases z2
  · subst hd
    rw [of_bl hv]
    exact q H3
end
end Pm
/-! The law's call, its caller without guards. -/
namespace Pm
open PySem PySem.Spec PyProof.Rows L2
section
variable {P : Program} {w : World} {K : PySem.W.Frag} {mg mb : Str → Option Value} {fa a : Addr} {s1 : Shared} {vs : List Value} {ns : List Int}
abbrev LawEnd (s1 : Shared) : Result → Shared → Prop := fun r s' => r = .ok (.ret (.bool true)) ∧ OldK s1.heap s'.heap ∧ s'.os = s1.os ∧ AllBare s'.gens
/-- from what is tracked at the call: the script alone, if at all -/
theorem law_from (kin : K.In s1.heap) (gns : s1.heap.Ns mainGlobals mg) (bns : s1.heap.Ns builtinsNs mb) (bb : ∀ x : Str, x ≠ "__name__" → mb x = bootBuiltins x) (lim : s1.heap.NoLimit) (ge : s1.gens = #[])
    (at_ : s1.heap.get? a = some { cls := .type "list", data := .seq vs.toArray }) (room : Room 28 callerA) (hmg : mg "law" = some (.ref fa)) (F : ∀ base : Heap, CalG P w K mg base "law" 28 ["_law_script"] (spLaw K))
    (H : Hp) (fr : ∀ b u, H b = some u → b = a ∧ K.lookup a = none ∧ ∃ o xs, u = .frz o (.lst xs)) (sq : SqL K H a (ns.map V.int)) (hok : HOk P w H s1.heap) :
    codeAny (model P w) callerA (.call (.ref fa) ⟨[.ref a], []⟩) (LawEnd s1) s1 := by
  obtain ⟨f, fd, run, len, bnd, g, kp⟩ := (F (hidT s1.heap H)).ex
  rw [hmg] at g
  cases g
  have tracked : ∀ {b : Addr}, H b ≠ none → b = a ∧ K.lookup a = none := fun {b} n => by
    cases e : H b with
    | none => exact absurd e n
    | some u => exact ⟨(fr b u e).1, (fr b u e).2.1⟩
  have free : ∀ {b : Addr}, (H b ≠ none → False) → H b = none := fun {b} n => by
    cases e : H b with
    | none => rfl
    | some u => exact (n (by rw [e]; exact fun z => nomatch z)).elim
  have nsH : ∀ {b : Addr} {m : Str → Option Value}, s1.heap.Ns b m → (hidT s1.heap H).Ns b m := fun {b m} z => by
    obtain ⟨o, es, ep, e1, e2, e3⟩ := z
    refine ⟨o, es, ep, hidT_get e1 (free fun n => ?_), e2, e3⟩
    rw [(tracked n).1, at_] at e1
    cases e1
    cases e2
  have kH : K.In (hidT s1.heap H) := fun b o e => hidT_get (kin b o e) (free fun n => by
    obtain ⟨t1, t2⟩ := tracked n
    rw [t1, t2] at e; cases e)
  obtain ⟨mc, c1, c2⟩ := lim
  have env : Env0 P w K mg (hidT s1.heap H) callerA [] s1 H := {
    frames := rfl
    mod := ⟨kH, nsH gns, ⟨mb, nsH bns, bb⟩, ⟨mc, nsH c1, c2⟩⟩
    bs := fun b o e => of_hidT e
    bsz := by rw [hidT_size]; exact Nat.le_refl _
    funs := trivial
    frf := fun b m => nomatch m
    hok := hok
    bare := .of_eq ge }
  have bt := bnd s1 [.ref a] kin rfl
  have res := run callerA [] s1 H ⟨[.ref a], []⟩ [.ref a] [.ref a] (fun v _ => v = .bl true) (fun _ _ _ => False) rfl room env bt (.cons rfl .nil) ⟨a, ns, rfl, sq, fun _ => rfl⟩
  refine codeAny_mono res fun r s2 z => ?_
  cases r with
  | error e => exact (show False from z).elim
  | ok fl => cases fl with
    | ret u =>
      obtain ⟨v, H2, os, bare, un, hok2, rv, q⟩ := z
      have q : v = .bl true := q
      rw [q] at rv
      have rv : u = Value.bool true := rv
      refine ⟨by rw [rv], .of_keep fun b o e => ?_, os, bare⟩
      cases hb : H b with
      | none => exact un.keep b o e hb (fun m => nomatch m) (fun m => nomatch m)
      | some t =>
        obtain ⟨_, _, ob, xs, et⟩ := fr b t hb
        subst et
        obtain ⟨o1, _⟩ := hok b _ hb
        obtain ⟨o2, _⟩ := hok2 b _ (un.frzs b ob _ hb)
        rw [e] at o1
        cases o1
        exact o2
    | _ => exact z.elim
theorem law_callG (kin : K.In s1.heap) (gns : s1.heap.Ns mainGlobals mg) (bns : s1.heap.Ns builtinsNs mb) (bb : ∀ x : Str, x ≠ "__name__" → mb x = bootBuiltins x) (lim : s1.heap.NoLimit) (ge : s1.gens = #[])
    (at_ : s1.heap.get? a = some { cls := .type "list", data := .seq vs.toArray }) (hin : IntsAre vs ns) (few : ns.length ≤ sizeLine) (room : Room 28 callerA) (hmg : mg "law" = some (.ref fa)) (F : ∀ base : Heap, CalG P w K mg base "law" 28 ["_law_script"] (spLaw K)) :
    codeAny (model P w) callerA (.call (.ref fa) ⟨[.ref a], []⟩) (LawEnd s1) s1 := by
  have rel := vals_ints hin
  have lv := hin.length
  cases hk : K.lookup a with
  | some o =>
    have e := kin a o hk
    rw [at_] at e
    cases e
    refine law_from kin gns bns bb lim ge at_ room hmg F (ns := ns) (fun _ => none) (fun b u z => nomatch z) ?_ fun b u z => nomatch z
    exact .inr ⟨_, vs.toArray, _, hk, rfl, rfl, rfl, by rw [List.size_toArray]; omega, by simpa using rel⟩
  | none =>
    refine law_from kin gns bns bb lim ge at_ room hmg F (ns := ns) (fun b => if b = a then some (.frz { cls := .type "list", data := .seq vs.toArray } (.lst (ns.map V.int))) else none) (fun b u z => ?_) ?_ fun b u z => ?_
    · by_cases h : b = a
      · rw [if_pos h] at z
        exact ⟨h, hk, _, _, (Option.some.inj z).symm⟩
      · rw [if_neg h] at z; cases z
    · exact .inl (.inr ⟨{ cls := .type "list", data := .seq vs.toArray }, if_pos rfl⟩)
    · dsimp only at z
      by_cases h : b = a
      · rw [if_pos h] at z
        cases z
        subst h
        exact ⟨at_, by rw [List.length_map]; exact few, vs, _, rel, at_⟩
      · rw [if_neg h] at z; cases z
end
end Pm
/-! What the head tells; the law. -/
namespace Pm
open PySem PySem.Spec PyProof.Rows L2
theorem exB_ok {K : PySem.W.Frag} {C : Addr} (h : exB K C = true) : ∃ nm q N bs bm sn sub ab col dd k0 k1 k2 k3 k5, K.lookup C = some (excClassObj nm q C N bs bm true sn sub ab col dd k0 k1 k2 k3 k5 "ValueError.__new__") ∧ PySem.HandSPX.refsVE bm = true := by
  unfold exB at h
  split at h
  · rename_i dd cd sl ho
    split at h
    · rename_i C' bm k0 k1 k2 k3 n k5 hm hs
      simp only [Bool.and_eq_true, beq_iff_eq, Bool.not_eq_true'] at h
      obtain ⟨rfl, rfl, hdel, hdc, hre⟩ := h
      obtain ⟨nm, bs, mro, ns, qn, hd, sn, sub, ab, col, del⟩ := cd
      dsimp only at hm hdel hdc
      subst hm hdel hdc
      obtain ⟨l⟩ := sl
      have hs : l = [k0, k1, k2, k3, some (.builtin "ValueError.__new__"), k5] := hs
      subst hs
      exact ⟨nm, qn, ns, bs, bm, sn, sub, ab, col, dd, k0, k1, k2, k3, k5, ho, hre⟩
    · cases h
  · cases h
section
variable {P : Program} {w : World} {K : PySem.W.Frag} {h0 : Heap} {mg : Str → Option Value} {base : Heap}
theorem xs_of (X : K.In h0) (G : h0.Ns mainGlobals mg) (c : He.SaysX faL fnL tsL [] exL w h0 K) : Xs K mg (He.ga K "InvalidState") (He.ma K (He.ga K "InvalidState") "__init__") := by
  have m : exL K = true := c.more
  unfold exL at m
  simp only [Bool.and_eq_true, decide_eq_true_eq] at m
  obtain ⟨m1, m2, m3, m4, m5, m6, m7, m8, m9, m10, m11, m12⟩ := m
  exact ⟨⟨exB_ok m1, m2, m3, m4, m5⟩, xfB_ok m6, m7, m8, m9, m10, He.glo_ok X G (c.t.d.fact 45 (f := .glo "InvalidState") rfl)⟩
theorem sides_of (c : He.SaysX faL fnL tsL [] exL w h0 K) : He.valsB K (He.ga K "SIDES") [("map", .int 1), ("pair", .int 2), ("later", .int 2), ("above", .int 2)] = true ∧ (["count", "row", "tops", "table"].all fun x => He.eqO (PySem.W.nsIn K (He.ga K "SIDES") x) (some none)) = true := by
  have m : exL K = true := c.more
  unfold exL at m
  simp only [Bool.and_eq_true, decide_eq_true_eq] at m
  obtain ⟨m1, m2, m3, m4, m5, m6, m7, m8, m9, m10, m11, m12⟩ := m
  exact ⟨m11, m12⟩
theorem txt_of (X : K.In h0) (G : h0.Ns mainGlobals mg) (c : He.SaysX faL fnL tsL [] exL w h0 K) : Txt K mg w (He.ga K "SIDES") := by
  obtain ⟨sv, sn⟩ := sides_of c
  exact {
    b_isinstance := He.free_ok X G (c.t.d.fact 49 (f := .free "isinstance") rfl)
    b_len := He.free_ok X G (c.t.d.fact 50 (f := .free "len") rfl)
    b_all := He.free_ok X G (c.t.d.fact 51 (f := .free "all") rfl)
    b_any := He.free_ok X G (c.t.d.fact 52 (f := .free "any") rfl)
    b_range := He.free_ok X G (c.t.d.fact 53 (f := .free "range") rfl)
    b_sorted := He.free_ok X G (c.t.d.fact 54 (f := .free "sorted") rfl)
    b_set := He.free_ok X G (c.t.d.fact 55 (f := .free "set") rfl)
    b_tuple := He.free_ok X G (c.t.d.fact 56 (f := .free "tuple") rfl)
    b_list := He.free_ok X G (c.t.d.fact 57 (f := .free "list") rfl)
    b_zip := He.free_ok X G (c.t.d.fact 58 (f := .free "zip") rfl)
    b_sum := He.free_ok X G (c.t.d.fact 59 (f := .free "sum") rfl)
    b_abs := He.free_ok X G (c.t.d.fact 60 (f := .free "abs") rfl)
    b_max := He.free_ok X G (c.t.d.fact 61 (f := .free "max") rfl)
    b_divmod := He.free_ok X G (c.t.d.fact 62 (f := .free "divmod") rfl)
    b_repr := He.free_ok X G (c.t.d.fact 63 (f := .free "repr") rfl)
    b_int := He.free_ok X G (c.t.d.fact 64 (f := .free "int") rfl)
    b_bool := He.free_ok X G (c.t.d.fact 65 (f := .free "bool") rfl)
    b_str := He.free_ok X G (c.t.d.fact 66 (f := .free "str") rfl)
    MOST_TABLE_STATES := He.int_ok X G (c.t.d.fact 67 (f := .int "MOST_TABLE_STATES" 8) rfl)
    MOST_ROW := He.int_ok X G (c.t.d.fact 68 (f := .int "MOST_ROW" 20) rfl)
    MOST_POINTS := He.int_ok X G (c.t.d.fact 69 (f := .int "MOST_POINTS" 6) rfl)
    MOST_TIES := He.int_ok X G (c.t.d.fact 70 (f := .int "MOST_TIES" 15) rfl)
    MOST_DEEP := He.int_ok X G (c.t.d.fact 71 (f := .int "MOST_DEEP" 4) rfl)
    MOST_KINDS := He.int_ok X G (c.t.d.fact 72 (f := .int "MOST_KINDS" 12) rfl)
    MOST_NAME := He.int_ok X G (c.t.d.fact 73 (f := .int "MOST_NAME" 8) rfl)
    LETTERS := He.str_ok X G (c.t.d.fact 74 (f := .str "LETTERS" "abcdefghijklmnopqrstuvwxyz") rfl)
    SIDES := He.glo_ok X G (c.t.d.fact 48 (f := .glo "SIDES") rfl)
    kd := c.t.tab 0
    sd_map := He.valsB_ok sv (q := ("map", .int 1)) (by simp)
    sd_pair := He.valsB_ok sv (q := ("pair", .int 2)) (by simp)
    sd_later := He.valsB_ok sv (q := ("later", .int 2)) (by simp)
    sd_above := He.valsB_ok sv (q := ("above", .int 2)) (by simp)
    sd_count := He.eqO_ok (List.all_eq_true.mp sn "count" (by simp))
    sd_row := He.eqO_ok (List.all_eq_true.mp sn "row" (by simp))
    sd_tops := He.eqO_ok (List.all_eq_true.mp sn "tops" (by simp))
    sd_table := He.eqO_ok (List.all_eq_true.mp sn "table" (by simp)) }
theorem st_is_integer (X : K.In h0) (G : h0.Ns mainGlobals mg) (c : He.SaysX faL fnL tsL [] exL w h0 K) : Stands K mg "is_integer" s_is_integer ["value"] := by
  obtain ⟨fd, F⟩ := c.t.d.def_ 1 (d := d_is_integer) rfl
  exact ⟨He.ga K "is_integer", fd, F, FunD.bindsN F fun _ _ _ _ _ _ us hl => match us, hl with | [_], _ => rfl, He.glo_ok X G (c.t.d.fact 0 (f := .glo "is_integer") rfl)⟩
theorem st_is_count (X : K.In h0) (G : h0.Ns mainGlobals mg) (c : He.SaysX faL fnL tsL [] exL w h0 K) : Stands K mg "is_count" s_is_count ["value"] := by
  obtain ⟨fd, F⟩ := c.t.d.def_ 2 (d := d_is_count) rfl
  exact ⟨He.ga K "is_count", fd, F, FunD.bindsN F fun _ _ _ _ _ _ us hl => match us, hl with | [_], _ => rfl, He.glo_ok X G (c.t.d.fact 1 (f := .glo "is_count") rfl)⟩
theorem st_is_list (X : K.In h0) (G : h0.Ns mainGlobals mg) (c : He.SaysX faL fnL tsL [] exL w h0 K) : Stands K mg "is_list" s_is_list ["value"] := by
  obtain ⟨fd, F⟩ := c.t.d.def_ 3 (d := d_is_list) rfl
  exact ⟨He.ga K "is_list", fd, F, FunD.bindsN F fun _ _ _ _ _ _ us hl => match us, hl with | [_], _ => rfl, He.glo_ok X G (c.t.d.fact 2 (f := .glo "is_list") rfl)⟩
theorem st_is_name_word (X : K.In h0) (G : h0.Ns mainGlobals mg) (c : He.SaysX faL fnL tsL [] exL w h0 K) : Stands K mg "is_name_word" s_is_name_word ["value"] := by
  obtain ⟨fd, F⟩ := c.t.d.def_ 6 (d := d_is_name_word) rfl
  exact ⟨He.ga K "is_name_word", fd, F, FunD.bindsN F fun _ _ _ _ _ _ us hl => match us, hl with | [_], _ => rfl, He.glo_ok X G (c.t.d.fact 5 (f := .glo "is_name_word") rfl)⟩
theorem st__law_is_count (X : K.In h0) (G : h0.Ns mainGlobals mg) (c : He.SaysX faL fnL tsL [] exL w h0 K) : Stands K mg "_law_is_count" s__law_is_count ["_law_value"] := by
  obtain ⟨fd, F⟩ := c.t.d.def_ 34 (d := d__law_is_count) rfl
  exact ⟨He.ga K "_law_is_count", fd, F, FunD.bindsN F fun _ _ _ _ _ _ us hl => match us, hl with | [_], _ => rfl, He.glo_ok X G (c.t.d.fact 33 (f := .glo "_law_is_count") rfl)⟩
theorem st__law_is_name (X : K.In h0) (G : h0.Ns mainGlobals mg) (c : He.SaysX faL fnL tsL [] exL w h0 K) : Stands K mg "_law_is_name" s__law_is_name ["_law_value"] := by
  obtain ⟨fd, F⟩ := c.t.d.def_ 35 (d := d__law_is_name) rfl
  exact ⟨He.ga K "_law_is_name", fd, F, FunD.bindsN F fun _ _ _ _ _ _ us hl => match us, hl with | [_], _ => rfl, He.glo_ok X G (c.t.d.fact 34 (f := .glo "_law_is_name") rfl)⟩
theorem st_table_is_join (X : K.In h0) (G : h0.Ns mainGlobals mg) (c : He.SaysX faL fnL tsL [] exL w h0 K) : Stands K mg "table_is_join" s_table_is_join ["rows"] := by
  obtain ⟨fd, F⟩ := c.t.d.def_ 5 (d := d_table_is_join) rfl
  exact ⟨He.ga K "table_is_join", fd, F, FunD.bindsN F fun _ _ _ _ _ _ us hl => match us, hl with | [_], _ => rfl, He.glo_ok X G (c.t.d.fact 4 (f := .glo "table_is_join") rfl)⟩
theorem st_are_table_rows (X : K.In h0) (G : h0.Ns mainGlobals mg) (c : He.SaysX faL fnL tsL [] exL w h0 K) : Stands K mg "are_table_rows" s_are_table_rows ["value"] := by
  obtain ⟨fd, F⟩ := c.t.d.def_ 4 (d := d_are_table_rows) rfl
  exact ⟨He.ga K "are_table_rows", fd, F, FunD.bindsN F fun _ _ _ _ _ _ us hl => match us, hl with | [_], _ => rfl, He.glo_ok X G (c.t.d.fact 3 (f := .glo "are_table_rows") rfl)⟩
theorem st_highs_of_points (X : K.In h0) (G : h0.Ns mainGlobals mg) (c : He.SaysX faL fnL tsL [] exL w h0 K) : Stands K mg "highs_of_points" s_highs_of_points ["many", "ties"] := by
  obtain ⟨fd, F⟩ := c.t.d.def_ 7 (d := d_highs_of_points) rfl
  exact ⟨He.ga K "highs_of_points", fd, F, FunD.bindsN F fun _ _ _ _ _ _ us hl => match us, hl with | [_, _], _ => rfl, He.glo_ok X G (c.t.d.fact 6 (f := .glo "highs_of_points") rfl)⟩
theorem st_is_tie (X : K.In h0) (G : h0.Ns mainGlobals mg) (c : He.SaysX faL fnL tsL [] exL w h0 K) : Stands K mg "is_tie" s_is_tie ["many", "value"] := by
  obtain ⟨fd, F⟩ := c.t.d.def_ 8 (d := d_is_tie) rfl
  exact ⟨He.ga K "is_tie", fd, F, FunD.bindsN F fun _ _ _ _ _ _ us hl => match us, hl with | [_, _], _ => rfl, He.glo_ok X G (c.t.d.fact 7 (f := .glo "is_tie") rfl)⟩
theorem st_are_ties (X : K.In h0) (G : h0.Ns mainGlobals mg) (c : He.SaysX faL fnL tsL [] exL w h0 K) : Stands K mg "are_ties" s_are_ties ["many", "value"] := by
  obtain ⟨fd, F⟩ := c.t.d.def_ 9 (d := d_are_ties) rfl
  exact ⟨He.ga K "are_ties", fd, F, FunD.bindsN F fun _ _ _ _ _ _ us hl => match us, hl with | [_, _], _ => rfl, He.glo_ok X G (c.t.d.fact 8 (f := .glo "are_ties") rfl)⟩
theorem st__law_higher (X : K.In h0) (G : h0.Ns mainGlobals mg) (c : He.SaysX faL fnL tsL [] exL w h0 K) : Stands K mg "_law_higher" s__law_higher ["_law_many", "_law_ties"] := by
  obtain ⟨fd, F⟩ := c.t.d.def_ 30 (d := d__law_higher) rfl
  exact ⟨He.ga K "_law_higher", fd, F, FunD.bindsN F fun _ _ _ _ _ _ us hl => match us, hl with | [_, _], _ => rfl, He.glo_ok X G (c.t.d.fact 29 (f := .glo "_law_higher") rfl)⟩
theorem st__law_is_free (X : K.In h0) (G : h0.Ns mainGlobals mg) (c : He.SaysX faL fnL tsL [] exL w h0 K) : Stands K mg "_law_is_free" s__law_is_free ["_law_many", "_law_ties", "_law_points"] := by
  obtain ⟨fd, F⟩ := c.t.d.def_ 31 (d := d__law_is_free) rfl
  exact ⟨He.ga K "_law_is_free", fd, F, FunD.bindsN F fun _ _ _ _ _ _ us hl => match us, hl with | [_, _, _], _ => rfl, He.glo_ok X G (c.t.d.fact 30 (f := .glo "_law_is_free") rfl)⟩
theorem st_has_right_sides (X : K.In h0) (G : h0.Ns mainGlobals mg) (c : He.SaysX faL fnL tsL [] exL w h0 K) : Stands K mg "has_right_sides" s_has_right_sides ["value"] := by
  obtain ⟨fd, F⟩ := c.t.d.def_ 10 (d := d_has_right_sides) rfl
  exact ⟨He.ga K "has_right_sides", fd, F, FunD.bindsN F fun _ _ _ _ _ _ us hl => match us, hl with | [_], _ => rfl, He.glo_ok X G (c.t.d.fact 9 (f := .glo "has_right_sides") rfl)⟩
theorem st_is_kind_value (X : K.In h0) (G : h0.Ns mainGlobals mg) (c : He.SaysX faL fnL tsL [] exL w h0 K) : Stands K mg "is_kind_value" s_is_kind_value ["value"] := by
  obtain ⟨fd, F⟩ := c.t.d.def_ 11 (d := d_is_kind_value) rfl
  exact ⟨He.ga K "is_kind_value", fd, F, FunD.bindsN F fun _ _ _ _ _ _ us hl => match us, hl with | [_], _ => rfl, He.glo_ok X G (c.t.d.fact 10 (f := .glo "is_kind_value") rfl)⟩
theorem st_kind_as_told (X : K.In h0) (G : h0.Ns mainGlobals mg) (c : He.SaysX faL fnL tsL [] exL w h0 K) : Stands K mg "kind_as_told" s_kind_as_told ["value"] := by
  obtain ⟨fd, F⟩ := c.t.d.def_ 12 (d := d_kind_as_told) rfl
  exact ⟨He.ga K "kind_as_told", fd, F, FunD.bindsN F fun _ _ _ _ _ _ us hl => match us, hl with | [_], _ => rfl, He.glo_ok X G (c.t.d.fact 11 (f := .glo "kind_as_told") rfl)⟩
theorem st_want_kind (X : K.In h0) (G : h0.Ns mainGlobals mg) (c : He.SaysX faL fnL tsL [] exL w h0 K) : Stands K mg "want_kind" s_want_kind ["value"] := by
  obtain ⟨fd, F⟩ := c.t.d.def_ 13 (d := d_want_kind) rfl
  exact ⟨He.ga K "want_kind", fd, F, FunD.bindsN F fun _ _ _ _ _ _ us hl => match us, hl with | [_], _ => rfl, He.glo_ok X G (c.t.d.fact 12 (f := .glo "want_kind") rfl)⟩
theorem st_least_by_kind (X : K.In h0) (G : h0.Ns mainGlobals mg) (c : He.SaysX faL fnL tsL [] exL w h0 K) : Stands K mg "least_by_kind" s_least_by_kind ["kind"] := by
  obtain ⟨fd, F⟩ := c.t.d.def_ 20 (d := d_least_by_kind) rfl
  exact ⟨He.ga K "least_by_kind", fd, F, FunD.bindsN F fun _ _ _ _ _ _ us hl => match us, hl with | [_], _ => rfl, He.glo_ok X G (c.t.d.fact 19 (f := .glo "least_by_kind") rfl)⟩
theorem st_state_as_told (X : K.In h0) (G : h0.Ns mainGlobals mg) (c : He.SaysX faL fnL tsL [] exL w h0 K) : Stands K mg "state_as_told" s_state_as_told ["kind", "value"] := by
  obtain ⟨fd, F⟩ := c.t.d.def_ 18 (d := d_state_as_told) rfl
  exact ⟨He.ga K "state_as_told", fd, F, FunD.bindsN F fun _ _ _ _ _ _ us hl => match us, hl with | [_, _], _ => rfl, He.glo_ok X G (c.t.d.fact 17 (f := .glo "state_as_told") rfl)⟩
theorem st_is_lot_of_tops (X : K.In h0) (G : h0.Ns mainGlobals mg) (c : He.SaysX faL fnL tsL [] exL w h0 K) : Stands K mg "is_lot_of_tops" s_is_lot_of_tops ["kind", "value"] := by
  obtain ⟨fd, F⟩ := c.t.d.def_ 14 (d := d_is_lot_of_tops) rfl
  exact ⟨He.ga K "is_lot_of_tops", fd, F, FunD.bindsN F fun _ _ _ _ _ _ us hl => match us, hl with | [_, _], _ => rfl, He.glo_ok X G (c.t.d.fact 13 (f := .glo "is_lot_of_tops") rfl)⟩
theorem st_is_entry_of (X : K.In h0) (G : h0.Ns mainGlobals mg) (c : He.SaysX faL fnL tsL [] exL w h0 K) : Stands K mg "is_entry_of" s_is_entry_of ["kind", "value"] := by
  obtain ⟨fd, F⟩ := c.t.d.def_ 15 (d := d_is_entry_of) rfl
  exact ⟨He.ga K "is_entry_of", fd, F, FunD.bindsN F fun _ _ _ _ _ _ us hl => match us, hl with | [_, _], _ => rfl, He.glo_ok X G (c.t.d.fact 14 (f := .glo "is_entry_of") rfl)⟩
theorem st_is_map_state (X : K.In h0) (G : h0.Ns mainGlobals mg) (c : He.SaysX faL fnL tsL [] exL w h0 K) : Stands K mg "is_map_state" s_is_map_state ["kind", "value"] := by
  obtain ⟨fd, F⟩ := c.t.d.def_ 16 (d := d_is_map_state) rfl
  exact ⟨He.ga K "is_map_state", fd, F, FunD.bindsN F fun _ _ _ _ _ _ us hl => match us, hl with | [_, _], _ => rfl, He.glo_ok X G (c.t.d.fact 15 (f := .glo "is_map_state") rfl)⟩
theorem st_is_state_value (X : K.In h0) (G : h0.Ns mainGlobals mg) (c : He.SaysX faL fnL tsL [] exL w h0 K) : Stands K mg "is_state_value" s_is_state_value ["kind", "value"] := by
  obtain ⟨fd, F⟩ := c.t.d.def_ 17 (d := d_is_state_value) rfl
  exact ⟨He.ga K "is_state_value", fd, F, FunD.bindsN F fun _ _ _ _ _ _ us hl => match us, hl with | [_, _], _ => rfl, He.glo_ok X G (c.t.d.fact 16 (f := .glo "is_state_value") rfl)⟩
theorem st__law_least (X : K.In h0) (G : h0.Ns mainGlobals mg) (c : He.SaysX faL fnL tsL [] exL w h0 K) : Stands K mg "_law_least" s__law_least ["_law_kind_here"] := by
  obtain ⟨fd, F⟩ := c.t.d.def_ 32 (d := d__law_least) rfl
  exact ⟨He.ga K "_law_least", fd, F, FunD.bindsN F fun _ _ _ _ _ _ us hl => match us, hl with | [_], _ => rfl, He.glo_ok X G (c.t.d.fact 31 (f := .glo "_law_least") rfl)⟩
theorem st__law_told (X : K.In h0) (G : h0.Ns mainGlobals mg) (c : He.SaysX faL fnL tsL [] exL w h0 K) : Stands K mg "_law_told" s__law_told ["_law_kind_here", "_law_state_here"] := by
  obtain ⟨fd, F⟩ := c.t.d.def_ 39 (d := d__law_told) rfl
  exact ⟨He.ga K "_law_told", fd, F, FunD.bindsN F fun _ _ _ _ _ _ us hl => match us, hl with | [_, _], _ => rfl, He.glo_ok X G (c.t.d.fact 38 (f := .glo "_law_told") rfl)⟩
theorem st__law_is_lot (X : K.In h0) (G : h0.Ns mainGlobals mg) (c : He.SaysX faL fnL tsL [] exL w h0 K) : Stands K mg "_law_is_lot" s__law_is_lot ["_law_kind_here", "_law_value"] := by
  obtain ⟨fd, F⟩ := c.t.d.def_ 37 (d := d__law_is_lot) rfl
  exact ⟨He.ga K "_law_is_lot", fd, F, FunD.bindsN F fun _ _ _ _ _ _ us hl => match us, hl with | [_, _], _ => rfl, He.glo_ok X G (c.t.d.fact 36 (f := .glo "_law_is_lot") rfl)⟩
theorem st__law_is_map (X : K.In h0) (G : h0.Ns mainGlobals mg) (c : He.SaysX faL fnL tsL [] exL w h0 K) : Stands K mg "_law_is_map" s__law_is_map ["_law_kind_here", "_law_value"] := by
  obtain ⟨fd, F⟩ := c.t.d.def_ 38 (d := d__law_is_map) rfl
  exact ⟨He.ga K "_law_is_map", fd, F, FunD.bindsN F fun _ _ _ _ _ _ us hl => match us, hl with | [_, _], _ => rfl, He.glo_ok X G (c.t.d.fact 37 (f := .glo "_law_is_map") rfl)⟩
theorem st__law_is (X : K.In h0) (G : h0.Ns mainGlobals mg) (c : He.SaysX faL fnL tsL [] exL w h0 K) : Stands K mg "_law_is" s__law_is ["_law_kind_here", "_law_value"] := by
  obtain ⟨fd, F⟩ := c.t.d.def_ 36 (d := d__law_is) rfl
  exact ⟨He.ga K "_law_is", fd, F, FunD.bindsN F fun _ _ _ _ _ _ us hl => match us, hl with | [_, _], _ => rfl, He.glo_ok X G (c.t.d.fact 35 (f := .glo "_law_is") rfl)⟩
theorem st_is_state (X : K.In h0) (G : h0.Ns mainGlobals mg) (c : He.SaysX faL fnL tsL [] exL w h0 K) : Stands K mg "is_state" s_is_state ["kind", "value"] := by
  obtain ⟨fd, F⟩ := c.t.d.def_ 21 (d := d_is_state) rfl
  exact ⟨He.ga K "is_state", fd, F, FunD.bindsN F fun _ _ _ _ _ _ us hl => match us, hl with | [_, _], _ => rfl, He.glo_ok X G (c.t.d.fact 20 (f := .glo "is_state") rfl)⟩
theorem st_least_state (X : K.In h0) (G : h0.Ns mainGlobals mg) (c : He.SaysX faL fnL tsL [] exL w h0 K) : Stands K mg "least_state" s_least_state ["kind"] := by
  obtain ⟨fd, F⟩ := c.t.d.def_ 22 (d := d_least_state) rfl
  exact ⟨He.ga K "least_state", fd, F, FunD.bindsN F fun _ _ _ _ _ _ us hl => match us, hl with | [_], _ => rfl, He.glo_ok X G (c.t.d.fact 21 (f := .glo "least_state") rfl)⟩
theorem st_want_state_of (X : K.In h0) (G : h0.Ns mainGlobals mg) (c : He.SaysX faL fnL tsL [] exL w h0 K) : Stands K mg "want_state_of" s_want_state_of ["kind", "value"] := by
  obtain ⟨fd, F⟩ := c.t.d.def_ 19 (d := d_want_state_of) rfl
  exact ⟨He.ga K "want_state_of", fd, F, FunD.bindsN F fun _ _ _ _ _ _ us hl => match us, hl with | [_, _], _ => rfl, He.glo_ok X G (c.t.d.fact 18 (f := .glo "want_state_of") rfl)⟩
theorem st_told_state (X : K.In h0) (G : h0.Ns mainGlobals mg) (c : He.SaysX faL fnL tsL [] exL w h0 K) : Stands K mg "told_state" s_told_state ["kind", "state"] := by
  obtain ⟨fd, F⟩ := c.t.d.def_ 23 (d := d_told_state) rfl
  exact ⟨He.ga K "told_state", fd, F, FunD.bindsN F fun _ _ _ _ _ _ us hl => match us, hl with | [_, _], _ => rfl, He.glo_ok X G (c.t.d.fact 22 (f := .glo "told_state") rfl)⟩
theorem st__law_draw (X : K.In h0) (G : h0.Ns mainGlobals mg) (c : He.SaysX faL fnL tsL [] exL w h0 K) : Stands K mg "_law_draw" s__law_draw ["_law_pot_here", "_law_many"] := by
  obtain ⟨fd, F⟩ := c.t.d.def_ 25 (d := d__law_draw) rfl
  exact ⟨He.ga K "_law_draw", fd, F, FunD.bindsN F fun _ _ _ _ _ _ us hl => match us, hl with | [_, _], _ => rfl, He.glo_ok X G (c.t.d.fact 24 (f := .glo "_law_draw") rfl)⟩
theorem st__law_pick (X : K.In h0) (G : h0.Ns mainGlobals mg) (c : He.SaysX faL fnL tsL [] exL w h0 K) : Stands K mg "_law_pick" s__law_pick ["_law_pot_here", "_law_some"] := by
  obtain ⟨fd, F⟩ := c.t.d.def_ 26 (d := d__law_pick) rfl
  exact ⟨He.ga K "_law_pick", fd, F, FunD.bindsN F fun _ _ _ _ _ _ us hl => match us, hl with | [_, _], _ => rfl, He.glo_ok X G (c.t.d.fact 25 (f := .glo "_law_pick") rfl)⟩
theorem st__law_tables (X : K.In h0) (G : h0.Ns mainGlobals mg) (c : He.SaysX faL fnL tsL [] exL w h0 K) : Stands K mg "_law_tables" s__law_tables [] := by
  obtain ⟨fd, F⟩ := c.t.d.def_ 27 (d := d__law_tables) rfl
  exact ⟨He.ga K "_law_tables", fd, F, FunD.bindsN F fun _ _ _ _ _ _ us hl => match us, hl with | [], _ => rfl, He.glo_ok X G (c.t.d.fact 26 (f := .glo "_law_tables") rfl)⟩
theorem st__law_leaf (X : K.In h0) (G : h0.Ns mainGlobals mg) (c : He.SaysX faL fnL tsL [] exL w h0 K) : Stands K mg "_law_leaf" s__law_leaf ["_law_pot_here"] := by
  obtain ⟨fd, F⟩ := c.t.d.def_ 28 (d := d__law_leaf) rfl
  exact ⟨He.ga K "_law_leaf", fd, F, FunD.bindsN F fun _ _ _ _ _ _ us hl => match us, hl with | [_], _ => rfl, He.glo_ok X G (c.t.d.fact 27 (f := .glo "_law_leaf") rfl)⟩
theorem st__law_kind (X : K.In h0) (G : h0.Ns mainGlobals mg) (c : He.SaysX faL fnL tsL [] exL w h0 K) : Stands K mg "_law_kind" s__law_kind ["_law_pot_here", "_law_depth"] := by
  obtain ⟨fd, F⟩ := c.t.d.def_ 29 (d := d__law_kind) rfl
  exact ⟨He.ga K "_law_kind", fd, F, FunD.bindsN F fun _ _ _ _ _ _ us hl => match us, hl with | [_, _], _ => rfl, He.glo_ok X G (c.t.d.fact 28 (f := .glo "_law_kind") rfl)⟩
theorem st__law_state (X : K.In h0) (G : h0.Ns mainGlobals mg) (c : He.SaysX faL fnL tsL [] exL w h0 K) : Stands K mg "_law_state" s__law_state ["_law_pot_here", "_law_kind_here"] := by
  obtain ⟨fd, F⟩ := c.t.d.def_ 33 (d := d__law_state) rfl
  exact ⟨He.ga K "_law_state", fd, F, FunD.bindsN F fun _ _ _ _ _ _ us hl => match us, hl with | [_, _], _ => rfl, He.glo_ok X G (c.t.d.fact 32 (f := .glo "_law_state") rfl)⟩
theorem st__law_as_tuples (X : K.In h0) (G : h0.Ns mainGlobals mg) (c : He.SaysX faL fnL tsL [] exL w h0 K) : Stands K mg "_law_as_tuples" s__law_as_tuples ["_law_value"] := by
  obtain ⟨fd, F⟩ := c.t.d.def_ 40 (d := d__law_as_tuples) rfl
  exact ⟨He.ga K "_law_as_tuples", fd, F, FunD.bindsN F fun _ _ _ _ _ _ us hl => match us, hl with | [_], _ => rfl, He.glo_ok X G (c.t.d.fact 39 (f := .glo "_law_as_tuples") rfl)⟩
theorem st__law_bent (X : K.In h0) (G : h0.Ns mainGlobals mg) (c : He.SaysX faL fnL tsL [] exL w h0 K) : Stands K mg "_law_bent" s__law_bent ["_law_pot_here", "_law_value"] := by
  obtain ⟨fd, F⟩ := c.t.d.def_ 41 (d := d__law_bent) rfl
  exact ⟨He.ga K "_law_bent", fd, F, FunD.bindsN F fun _ _ _ _ _ _ us hl => match us, hl with | [_, _], _ => rfl, He.glo_ok X G (c.t.d.fact 40 (f := .glo "_law_bent") rfl)⟩
theorem st__law_pot (X : K.In h0) (G : h0.Ns mainGlobals mg) (c : He.SaysX faL fnL tsL [] exL w h0 K) : Stands K mg "_law_pot" s__law_pot ["_law_script", "_law_k"] := by
  obtain ⟨fd, F⟩ := c.t.d.def_ 24 (d := d__law_pot) rfl
  exact ⟨He.ga K "_law_pot", fd, F, FunD.bindsN F fun _ _ _ _ _ _ us hl => match us, hl with | [_, _], _ => rfl, He.glo_ok X G (c.t.d.fact 23 (f := .glo "_law_pot") rfl)⟩
theorem st__law_heard (X : K.In h0) (G : h0.Ns mainGlobals mg) (c : He.SaysX faL fnL tsL [] exL w h0 K) : Stands K mg "_law_heard" s__law_heard ["_law_kind_here", "_law_value"] := by
  obtain ⟨fd, F⟩ := c.t.d.def_ 42 (d := d__law_heard) rfl
  exact ⟨He.ga K "_law_heard", fd, F, FunD.bindsN F fun _ _ _ _ _ _ us hl => match us, hl with | [_, _], _ => rfl, He.glo_ok X G (c.t.d.fact 41 (f := .glo "_law_heard") rfl)⟩
theorem st__law_value_right (X : K.In h0) (G : h0.Ns mainGlobals mg) (c : He.SaysX faL fnL tsL [] exL w h0 K) : Stands K mg "_law_value_right" s__law_value_right ["_law_kind_here", "_law_value"] := by
  obtain ⟨fd, F⟩ := c.t.d.def_ 43 (d := d__law_value_right) rfl
  exact ⟨He.ga K "_law_value_right", fd, F, FunD.bindsN F fun _ _ _ _ _ _ us hl => match us, hl with | [_, _], _ => rfl, He.glo_ok X G (c.t.d.fact 42 (f := .glo "_law_value_right") rfl)⟩
theorem st__law_right (X : K.In h0) (G : h0.Ns mainGlobals mg) (c : He.SaysX faL fnL tsL [] exL w h0 K) : Stands K mg "_law_right" s__law_right ["_law_pot_here"] := by
  obtain ⟨fd, F⟩ := c.t.d.def_ 44 (d := d__law_right) rfl
  exact ⟨He.ga K "_law_right", fd, F, FunD.bindsN F fun _ _ _ _ _ _ us hl => match us, hl with | [_], _ => rfl, He.glo_ok X G (c.t.d.fact 43 (f := .glo "_law_right") rfl)⟩
theorem st_law (X : K.In h0) (G : h0.Ns mainGlobals mg) (c : He.SaysX faL fnL tsL [] exL w h0 K) : Stands K mg "law" s_law ["_law_script"] := by
  obtain ⟨fd, F⟩ := c.t.d.def_ 45 (d := d_law) rfl
  exact ⟨He.ga K "law", fd, F, FunD.bindsN F fun _ _ _ _ _ _ us hl => match us, hl with | [_], _ => rfl, He.glo_ok X G (c.t.d.fact 44 (f := .glo "law") rfl)⟩
theorem all_law (X : K.In h0) (G : h0.Ns mainGlobals mg) (c : He.SaysX faL fnL tsL [] exL w h0 K) (base : Heap) : CalG P w K mg base "law" 28 ["_law_script"] (spLaw K) := by
  have T := txt_of X G c
  have xs := xs_of X G c
  obtain ⟨fdI, FI⟩ := c.t.d.def_ 0 (d := dInit) rfl
  have bI : Binds K fdI ["self", "value"] [] := FunD.bindsN FI fun _ _ _ _ _ _ us hl => match us, hl with | [_, _], _ => rfl
  have is_integer : Cal P w K mg base "is_integer" 1 ["value"] spInt := ok_is_integer T (st_is_integer X G c)
  have is_count : Cal P w K mg base "is_count" 2 ["value"] spCnt := ok_is_count T (st_is_count X G c) is_integer
  have is_list : Cal P w K mg base "is_list" 1 ["value"] spIsList := ok_is_list T (st_is_list X G c)
  have is_name_word : Cal P w K mg base "is_name_word" 1 ["value"] spName := ok_is_name_word T (st_is_name_word X G c)
  have l_is_count : Cal P w K mg base "_law_is_count" 1 ["_law_value"] spCnt := ok__law_is_count T (st__law_is_count X G c)
  have l_is_name := ok__law_is_name (P := P) (base := base) T (st__law_is_name X G c)
  have join : Cal P w K mg base "table_is_join" 1 ["rows"] spTab := ok_table_is_join T (st_table_is_join X G c)
  have rows := ok_are_table_rows T (st_are_table_rows X G c) is_list is_count join
  have highs : Cal P w K mg base "highs_of_points" 1 ["many", "ties"] spHi := ok_highs_of_points T (st_highs_of_points X G c)
  have tie := ok_is_tie T (st_is_tie X G c) is_count
  have ties := ok_are_ties T (st_are_ties X G c) is_list tie highs
  have higher : Cal P w K mg base "_law_higher" 1 ["_law_many", "_law_ties"] spLh := ok__law_higher T (st__law_higher X G c)
  have free := ok__law_is_free T (st__law_is_free X G c) higher
  have sides := ok_has_right_sides T (st_has_right_sides X G c) is_count ties rows
  have kv := ok_is_kind_value T (st_is_kind_value X G c) sides
  have kt : ∀ n, Cal P w K mg base "kind_as_told" (n + 1) ["value"] (spTold n) := ok_kind_as_told T (st_kind_as_told X G c)
  have want := ok_want_kind T (st_want_kind X G c) kv (kt 4)
  have lbk : ∀ n, Cal P w K mg base "least_by_kind" (n + 1) ["kind"] (spLeast n) := ok_least_by_kind T (st_least_by_kind X G c)
  have sat : ∀ n, Cal P w K mg base "state_as_told" (n + 1) ["kind", "value"] (spToldS n) := ok_state_as_told T (st_state_as_told X G c)
  have lot := ok_is_lot_of_tops T (st_is_lot_of_tops X G c) is_list is_count highs
  have isv := ok_is_state_value T (st_is_state_value X G c) (st_is_entry_of X G c) (st_is_map_state X G c) is_list is_name_word is_count lot sat lbk 4 (by decide)
  have ll : ∀ n, Cal P w K mg base "_law_least" (n + 1) ["_law_kind_here"] (spLeast n) := ok__law_least T (st__law_least X G c)
  have lt : ∀ n, Cal P w K mg base "_law_told" (n + 1) ["_law_kind_here", "_law_state_here"] (spToldS n) := ok__law_told T (st__law_told X G c)
  have llot := ok__law_is_lot T (st__law_is_lot X G c) l_is_count free
  have lis := ok__law_is T (st__law_is X G c) (st__law_is_map X G c) l_is_name l_is_count llot lt ll 4 (by decide)
  have iss := ok_is_state T (st_is_state X G c) want isv
  have issK := ok_is_stateK T (st_is_state X G c) want isv
  have lst := ok_least_state T (st_least_state X G c) want (lbk 4)
  have wso := ok_want_state_of xs FI bI T (st_want_state_of X G c) isv (sat 4)
  have ts := ok_told_state xs T (st_told_state X G c) want wso
  have draw : Cal P w K mg base "_law_draw" 1 ["_law_pot_here", "_law_many"] spDraw := ok__law_draw T (st__law_draw X G c)
  have pick := ok__law_pick T (st__law_pick X G c) draw
  have tabs : Cal P w K mg base "_law_tables" 1 [] spTables := ok__law_tables T (st__law_tables X G c)
  have leaf := ok__law_leaf T (st__law_leaf X G c) draw pick tabs
  have lk := ok__law_kind T (st__law_kind X G c) pick leaf 3 (by decide)
  have lst2 := ok__law_state T (st__law_state X G c) draw free ll 4 (by decide)
  have ast : ∀ n, Cal P w K mg base "_law_as_tuples" (n + 1) ["_law_value"] (spAsT n) := ok__law_as_tuples T (st__law_as_tuples X G c)
  have bent := ok__law_bent T (st__law_bent X G c) draw pick 12 (by decide)
  have pot : Cal P w K mg base "_law_pot" 1 ["_law_script", "_law_k"] (spPot K) := ok__law_pot T (st__law_pot X G c)
  have heard := ok__law_heard xs T (st__law_heard X G c) ts
  have vr := ok__law_value_right T (st__law_value_right X G c) issK iss lis (lt 4) heard
  have right := ok__law_right T (st__law_right X G c) draw lk lst (ll 4) vr lst2 (ast 8) lis bent
  exact ok_law T (st_law X G c) pot right
end
end Pm
open PySem PySem.W PySem.Calls PyProof.Rows
theorem PySem.Challenge.cw_partsmet_k13_whole_states_of_kinds_holds : PySem.Challenge.rw_partsmet_k13_whole_states_of_kinds.Holds := by
  w_on; o_law
  refine HandSHeadRun.head_any (r := Pm.RR) (q := view Pm.RR.prog [62]) (H := Pm.hk) (ob := Pm.obL) (M := 3000) (loose := Pm.loL) (d := HandSHeadRun.topDef Pm.RR.prog 62) (kwd := []) Pm.obL_eq
    (by kernel_rfl) (fun s => by kernel_rfl) Pm.runL (by kernel_rfl) (by kernel_rfl) (by kernel_rfl) (by rfl) (by first | assumption | decide +kernel) (by decide +kernel) ⟨rfl, rfl, rfl, rfl, rfl, by decide +kernel⟩ ?hw ?hc
  case hw => w_witness2
  case hc =>
    refine Att.attach_call (l := PySem.Challenge.rw_partsmet_k13_whole_states_of_kinds) (n := 63) rfl (by kernel_rfl) fun w s₀ s₁ mg mb fa o pm cd doc a vs ns G Y ho hd hcd hmg0 hobj hints hlen hg => ?_
    obtain ⟨K, KX, c⟩ := Y
    have hmg : mg ("law" : PySem.Str) = some (.ref fa) := by
      have e : (HandSHeadRun.topDef Pm.RR.prog 62).name = ("law" : PySem.Str) := by kernel_rfl
      rw [← e]
      exact hmg0
    exact Pm.law_callG (w := w) KX G.T.g G.T.b G.T.builtins G.T.nolimit hg hobj hints (Nat.le_trans hlen (by decide)) ⟨rfl, by decide, by decide⟩ hmg fun base => Pm.all_law KX G.T.g c base
