import PyProof.Rows.All
import Wide.All
import OpenK.AllK
import Wide.FinOn
import HandS.ForMost
import HandS.IsInst
import HandS.Star
import HandS.FStr
import HandS.Zip
import HandS.TupAny
import HandS.TupMul
import HandS.TupLe
import HandS.RaiseMore
import HandS.ExcInit
import HandS.ExcField
import HandS.Lambda
import HandS.Conv
import HandS.Codes
import HandS.Wide
import HandS.SortInts
import HandS.Style
import HandS.TryMany
import HandS.WordsExc
import HandS.Walk
import KE.GoesMore
import PySem.Challenge.RW_bornandshut_k88_papers_as_lines
import KE.KStateDown
import HandS.Head0
import HandS.Head1
import HandS.Head2
import HandS.HeadHook1
import HandS.HeadHook2
import HandS.HeadHook3
import HandS.HeadHook4
import HandS.HeadNt
import HandS.HeadWalk
import HandS.CallLocal
import HandS.Nested
import HandS.Dict
import HandS.More
import HandS.DictTup
import KE.KDictZip
import HandS.TupSets
import KE.KDictPairs
import PyProof.Rows.StrMul
set_option Elab.async false
set_option linter.all false
set_option maxRecDepth 100000
set_option maxHeartbeats 0
-- Fnd
/-! Plain data of tuples, worlds of what may change, and what an expression is worth. -/
namespace Fd
open PySem PySem.Spec PyProof.Rows L2
mutual
def Rp0 (K : PySem.W.Frag) (H : Hp) : PyData → V → Prop
  | .none, v => v = .non
  | .bool b, v => v = .bl b
  | .int i, v => v = .int i
  | .str s, v => v = .str s
  | .tuple ds, v => ∃ a xs, v = .ref a ∧ SqT K H a xs ∧ Rps0 K H ds xs
  | .list _, _ => False
  | .dict _, _ => False
def Rps0 (K : PySem.W.Frag) (H : Hp) : List PyData → List V → Prop
  | [], vs => vs = []
  | d :: ds, vs => ∃ v r, vs = v :: r ∧ Rp0 K H d v ∧ Rps0 K H ds r
end
/-- v stands for the plain data d -/
@[irreducible] def Rp (K : PySem.W.Frag) (H : Hp) (d : PyData) (v : V) : Prop := Rp0 K H d v
@[irreducible] def Rps (K : PySem.W.Frag) (H : Hp) (ds : List PyData) (vs : List V) : Prop := Rps0 K H ds vs
section
variable {K : PySem.W.Frag} {H H' : Hp}
theorem rp_non {v : V} : Rp K H .none v ↔ v = .non := by unfold Rp; simp only [Rp0]
theorem rp_bl {v : V} {b : Bool} : Rp K H (.bool b) v ↔ v = .bl b := by unfold Rp; simp only [Rp0]
theorem rp_int {v : V} {i : Int} : Rp K H (.int i) v ↔ v = .int i := by unfold Rp; simp only [Rp0]
theorem rp_str {v : V} {s : Str} : Rp K H (.str s) v ↔ v = .str s := by unfold Rp; simp only [Rp0]
theorem rp_tup {v : V} {ds : List PyData} : Rp K H (.tuple ds) v ↔ ∃ a xs, v = .ref a ∧ SqT K H a xs ∧ Rps K H ds xs := by unfold Rp Rps; simp only [Rp0]
theorem rp_list {v : V} {ds : List PyData} : ¬ Rp K H (.list ds) v := by unfold Rp; simp only [Rp0, not_false_eq_true]
theorem rp_dict {v : V} {ds : List (PyData × PyData)} : ¬ Rp K H (.dict ds) v := by unfold Rp; simp only [Rp0, not_false_eq_true]
theorem rps_nil {vs : List V} : Rps K H [] vs ↔ vs = [] := by unfold Rps; simp only [Rps0]
theorem rps_cons {vs : List V} {d : PyData} {ds : List PyData} : Rps K H (d :: ds) vs ↔ ∃ v r, vs = v :: r ∧ Rp K H d v ∧ Rps K H ds r := by unfold Rp Rps; simp only [Rps0]
/-- what tuples stood stand -/
def KeepT (H H' : Hp) : Prop := (∀ a xs, H a = some (.tup xs) → H' a = some (.tup xs)) ∧ ∀ a o u, H a = some (.frz o u) → H' a = some (.frz o u)
theorem KeepT.sq (k : KeepT H H') {a : Addr} {xs : List V} (h : SqT K H a xs) : SqT K H' a xs := by
  rcases h with (h | ⟨o, h⟩) | h
  · exact .inl (.inl (k.1 _ _ h))
  · exact .inl (.inr ⟨o, k.2 _ _ _ h⟩)
  · exact .inr h
mutual
theorem Rp.mono (k : KeepT H H') : ∀ (d : PyData) (v : V), Rp K H d v → Rp K H' d v
  | .none, v, h => rp_non.mpr (rp_non.mp h)
  | .bool b, v, h => rp_bl.mpr (rp_bl.mp h)
  | .int i, v, h => rp_int.mpr (rp_int.mp h)
  | .str s, v, h => rp_str.mpr (rp_str.mp h)
  | .tuple ds, v, h => by
    obtain ⟨a, xs, e, h1, h2⟩ := rp_tup.mp h
    exact rp_tup.mpr ⟨a, xs, e, k.sq h1, Rps.mono k ds xs h2⟩
  | .list ds, v, h => (rp_list h).elim
  | .dict ds, v, h => (rp_dict h).elim
theorem Rps.mono (k : KeepT H H') : ∀ (ds : List PyData) (vs : List V), Rps K H ds vs → Rps K H' ds vs
  | [], vs, h => rps_nil.mpr (rps_nil.mp h)
  | d :: ds, vs, h => by
    obtain ⟨v, r, e, h1, h2⟩ := rps_cons.mp h
    exact rps_cons.mpr ⟨v, r, e, Rp.mono k d v h1, Rps.mono k ds r h2⟩
end
theorem Rps.len : ∀ {ds : List PyData} {vs : List V}, Rps K H ds vs → vs.length = ds.length
  | [], vs, h => by rw [rps_nil.mp h]; rfl
  | d :: ds, vs, h => by
    obtain ⟨v, r, e, _, h2⟩ := rps_cons.mp h
    rw [e, List.length_cons, List.length_cons, Rps.len h2]
theorem Rps.get : ∀ {ds : List PyData} {vs : List V} {i : Nat} {d : PyData}, Rps K H ds vs → ds[i]? = some d → ∃ v, vs[i]? = some v ∧ Rp K H d v
  | [], vs, i, d, h, e => by simp at e
  | x :: ds, vs, 0, d, h, e => by
    obtain ⟨v, r, e1, h1, h2⟩ := rps_cons.mp h
    simp at e
    subst e e1
    exact ⟨v, rfl, h1⟩
  | x :: ds, vs, i + 1, d, h, e => by
    obtain ⟨v, r, e1, h1, h2⟩ := rps_cons.mp h
    subst e1
    obtain ⟨w, q1, q2⟩ := Rps.get (i := i) (d := d) h2 (by simpa using e)
    exact ⟨w, by simpa using q1, q2⟩
theorem Rps.getV {ds : List PyData} {vs : List V} {i : Nat} {v : V} (h : Rps K H ds vs) (e : vs[i]? = some v) : ∃ d, ds[i]? = some d ∧ Rp K H d v := by
  have hl := h.len
  have hi : i < vs.length := (List.getElem?_eq_some_iff.mp e).1
  have hi' : i < ds.length := by omega
  obtain ⟨w, q1, q2⟩ := h.get (List.getElem?_eq_getElem hi')
  rw [e] at q1
  cases q1
  exact ⟨_, List.getElem?_eq_getElem hi', q2⟩
theorem Rps.app : ∀ {ds es : List PyData} {vs ws : List V}, Rps K H ds vs → Rps K H es ws → Rps K H (ds ++ es) (vs ++ ws)
  | [], es, vs, ws, h, g => by rw [rps_nil.mp h]; exact g
  | d :: ds, es, vs, ws, h, g => by
    obtain ⟨v, r, e, h1, h2⟩ := rps_cons.mp h
    subst e
    exact rps_cons.mpr ⟨v, r ++ ws, rfl, h1, Rps.app h2 g⟩
theorem Rps.one {d : PyData} {v : V} (h : Rp K H d v) : Rps K H [d] [v] := rps_cons.mpr ⟨v, [], rfl, h, rps_nil.mpr rfl⟩
theorem Rps.drop : ∀ {ds : List PyData} {vs : List V} (n : Nat), Rps K H ds vs → Rps K H (ds.drop n) (vs.drop n)
  | ds, vs, 0, h => h
  | [], vs, n + 1, h => by rw [rps_nil.mp h]; exact rps_nil.mpr rfl
  | d :: ds, vs, n + 1, h => by
    obtain ⟨v, r, e, h1, h2⟩ := rps_cons.mp h
    subst e
    exact Rps.drop n h2
theorem Rps.take : ∀ {ds : List PyData} {vs : List V} (n : Nat), Rps K H ds vs → Rps K H (ds.take n) (vs.take n)
  | ds, vs, 0, h => by rw [List.take_zero, List.take_zero]; exact rps_nil.mpr rfl
  | [], vs, n + 1, h => by rw [rps_nil.mp h]; exact rps_nil.mpr rfl
  | d :: ds, vs, n + 1, h => by
    obtain ⟨v, r, e, h1, h2⟩ := rps_cons.mp h
    subst e
    exact rps_cons.mpr ⟨v, r.take n, rfl, h1, Rps.take n h2⟩
theorem Rps.rev : ∀ {ds : List PyData} {vs : List V}, Rps K H ds vs → Rps K H ds.reverse vs.reverse
  | [], vs, h => by rw [rps_nil.mp h]; exact rps_nil.mpr rfl
  | d :: ds, vs, h => by
    obtain ⟨v, r, e, h1, h2⟩ := rps_cons.mp h
    subst e
    rw [List.reverse_cons, List.reverse_cons]
    exact Rps.app (Rps.rev h2) (Rps.one h1)
theorem Rps.ints : ∀ (ns : List Int), Rps K H (ns.map PyData.int) (ns.map V.int)
  | [] => rps_nil.mpr rfl
  | n :: ns => rps_cons.mpr ⟨.int n, _, rfl, rp_int.mpr rfl, Rps.ints ns⟩
theorem Rps.of_ints : ∀ {ns : List Int} {vs : List V}, Rps K H (ns.map PyData.int) vs → vs = ns.map V.int
  | [], vs, h => rps_nil.mp h
  | n :: ns, vs, h => by
    obtain ⟨v, r, e, h1, h2⟩ := rps_cons.mp h
    rw [e, rp_int.mp h1, Rps.of_ints h2]
    rfl
theorem Rps.strs : ∀ (ns : List Str), Rps K H (ns.map PyData.str) (ns.map V.str)
  | [] => rps_nil.mpr rfl
  | n :: ns => rps_cons.mpr ⟨.str n, _, rfl, rp_str.mpr rfl, Rps.strs ns⟩
theorem Rps.of_strs : ∀ {ns : List Str} {vs : List V}, Rps K H (ns.map PyData.str) vs → vs = ns.map V.str
  | [], vs, h => rps_nil.mp h
  | n :: ns, vs, h => by
    obtain ⟨v, r, e, h1, h2⟩ := rps_cons.mp h
    rw [e, rp_str.mp h1, Rps.of_strs h2]
    rfl
theorem Rps.bls : ∀ (ns : List Bool), Rps K H (ns.map PyData.bool) (ns.map V.bl)
  | [] => rps_nil.mpr rfl
  | n :: ns => rps_cons.mpr ⟨.bl n, _, rfl, rp_bl.mpr rfl, Rps.bls ns⟩
theorem Rps.of_bls : ∀ {ns : List Bool} {vs : List V}, Rps K H (ns.map PyData.bool) vs → vs = ns.map V.bl
  | [], vs, h => rps_nil.mp h
  | n :: ns, vs, h => by
    obtain ⟨v, r, e, h1, h2⟩ := rps_cons.mp h
    rw [e, rp_bl.mp h1, Rps.of_bls h2]
    rfl
mutual
theorem Rp.dp : ∀ (d : PyData) (v : V), Rp K H d v → Dp K H v d
  | .none, v, h => by rw [rp_non.mp h]; exact .non
  | .bool b, v, h => by rw [rp_bl.mp h]; exact .bl b
  | .int i, v, h => by rw [rp_int.mp h]; exact .int i
  | .str s, v, h => by rw [rp_str.mp h]; exact .str s
  | .tuple ds, v, h => by
    obtain ⟨a, xs, e, h1, h2⟩ := rp_tup.mp h
    rw [e]
    exact .tup h1 (Rps.dp ds xs h2)
  | .list ds, v, h => (rp_list h).elim
  | .dict ds, v, h => (rp_dict h).elim
theorem Rps.dp : ∀ (ds : List PyData) (vs : List V), Rps K H ds vs → DpAll K H vs ds
  | [], vs, h => by rw [rps_nil.mp h]; exact .nil
  | d :: ds, vs, h => by
    obtain ⟨v, r, e, h1, h2⟩ := rps_cons.mp h
    rw [e]
    exact .cons (Rp.dp d v h1) (Rps.dp ds r h2)
end
end
/-! ### worlds -/
/-- what may be changed in place -/
def Loc : HO → Bool
  | .lst _ => true
  | .ins _ _ _ => true
  | .dK _ => true
  | .dT _ => true
  | _ => false
/-- M: the addresses that may be written; J: what holds of them (and of what never goes) -/
structure Wd where
  M : Addr → Prop
  J : Hp → Prop
  st : ∀ H H', J H → (∀ b o, H b = some o → (Loc o = true → M b) → H' b = some o) → J H'
  nm : ∀ H b, J H → M b → ∃ o, H b = some o ∧ (∀ xs, o ≠ .tup xs) ∧ ∀ ob u, o ≠ .frz ob u
/-- nothing may be written -/
def W0 : Wd := ⟨fun _ => False, fun _ => True, fun _ _ _ _ => trivial, fun _ _ _ h => h.elim⟩
/-- from H to H' -/
def Wx (W : Wd) (H H' : Hp) : Prop := W.J H ∧ W.J H' ∧ ∀ b o, H b = some o → ¬ W.M b → H' b = some o
section
variable {W : Wd} {K : PySem.W.Frag} {H H1 H2 H' : Hp}
theorem Wx.refl (j : W.J H) : Wx W H H := ⟨j, j, fun _ _ h _ => h⟩
theorem Wx.trans (a : Wx W H H1) (b : Wx W H1 H2) : Wx W H H2 := ⟨a.1, b.2.1, fun c o h n => b.2.2 c o (a.2.2 c o h n) n⟩
theorem Wx.same (j : W.J H) (s : Same H H') : Wx W H H' := ⟨j, W.st H H' j fun b o h _ => s b o h, fun b o h _ => s b o h⟩
theorem Wx.new {p : Addr} {o : HO} (j : W.J H) (h : H p = none) : Wx W H (upd H p o) := Wx.same j fun a u e => by
  rw [upd_ne (ne_of_none e h)]
  exact e
theorem Wx.keepT (x : Wx W H H') : KeepT H H' := by
  refine ⟨fun a xs h => x.2.2 a _ h fun m => ?_, fun a o u h => x.2.2 a _ h fun m => ?_⟩
  · obtain ⟨o, e, q, _⟩ := W.nm H a x.1 m
    rw [h] at e
    cases e
    exact q xs rfl
  · obtain ⟨o', e, _, q⟩ := W.nm H a x.1 m
    rw [h] at e
    cases e
    exact q o u rfl
theorem Wx.rp (x : Wx W H H') {d : PyData} {v : V} (h : Rp K H d v) : Rp K H' d v := Rp.mono x.keepT d v h
theorem Wx.rps (x : Wx W H H') {d : List PyData} {v : List V} (h : Rps K H d v) : Rps K H' d v := Rps.mono x.keepT d v h
theorem Wx.fresh (x : Wx W H H') {p : Addr} (h : H' p = none) : H p = none := by
  cases e : H p with
  | none => rfl
  | some o =>
    by_cases m : W.M p
    · obtain ⟨o', e', _⟩ := W.nm H' p x.2.1 m
      rw [h] at e'
      cases e'
    · have := x.2.2 p o e m
      rw [h] at this
      cases this
theorem Wx.nM (j : W.J H) {p : Addr} (h : H p = none) : ¬ W.M p := fun m => by
  obtain ⟨o', e', _⟩ := W.nm H p j m
  rw [h] at e'
  cases e'
/-- an object of one's own is written -/
theorem Wx.mut (x : Wx W H H1) {p : Addr} {o o' : HO} (h : H p = none) (e : H1 p = some o) (l : Loc o = true) : Wx W H (upd H1 p o') := by
  have np : ¬ W.M p := Wx.nM x.1 h
  refine ⟨x.1, W.st H1 _ x.2.1 fun b u hb hm => ?_, fun b u hb hm => ?_⟩
  · by_cases z : b = p
    · subst z
      rw [e] at hb
      cases hb
      exact (np (hm l)).elim
    · rw [upd_ne z]
      exact hb
  · rw [upd_ne (ne_of_none hb h)]
    exact x.2.2 b u hb hm
/-- .. and data stand -/
theorem KeepT.mut {p : Addr} {o o' : HO} (e : H p = some o) (l : Loc o = true) : KeepT H (upd H p o') := by
  refine ⟨fun a xs h => ?_, fun a ob u h => ?_⟩
  · rw [upd_ne]
    · exact h
    · intro z
      subst z
      rw [e] at h
      cases h
      cases l
  · rw [upd_ne]
    · exact h
    · intro z
      subst z
      rw [e] at h
      cases h
      cases l
theorem KeepT.refl : KeepT H H := ⟨fun _ _ h => h, fun _ _ _ h => h⟩
theorem KeepT.trans (a : KeepT H H1) (b : KeepT H1 H2) : KeepT H H2 := ⟨fun x y h => b.1 _ _ (a.1 _ _ h), fun x y z h => b.2 _ _ _ (a.2 _ _ _ h)⟩
theorem J.mut (j : W.J H) {p : Addr} {o o' : HO} (e : H p = some o) (l : Loc o = true) (np : ¬ W.M p) : W.J (upd H p o') := W.st H _ j fun b u hb hm => by
  by_cases z : b = p
  · subst z
    rw [e] at hb
    cases hb
    exact (np (hm l)).elim
  · rw [upd_ne z]
    exact hb
end
end Fd
-- Ev
namespace Fd
open PySem PySem.Spec PyProof.Rows L2
/-- a property of values that stands -/
structure VP (W : Wd) where
  P : Hp → V → Prop
  st : ∀ {H H' v}, Wx W H H' → P H v → P H' v
/-- a list to be read: not one that may be written -/
def RdL (W : Wd) (K : PySem.W.Frag) (H : Hp) (a : Addr) (xs : List V) : Prop :=
  SqL K H a xs ∧ ¬ W.M a
@[reducible] def VP.d (W : Wd) (K : PySem.W.Frag) (d : PyData) : VP W := ⟨fun H v => Rp K H d v, fun x h => x.rp h⟩
theorem RdL.st {W : Wd} {K : PySem.W.Frag} {H H' : Hp} {a : Addr} {xs : List V} (x : Wx W H H') (h : RdL W K H a xs) : RdL W K H' a xs := by
  obtain ⟨h, n⟩ := h
  refine ⟨?_, n⟩
  rcases h with (h | ⟨o, h⟩) | h
  · exact .inl (.inl (x.2.2 _ _ h n))
  · exact .inl (.inr ⟨o, x.2.2 _ _ h n⟩)
  · exact .inr h
/-- a list of such data (new, or one's own) -/
@[reducible] def VP.l (W : Wd) (K : PySem.W.Frag) (ds : List PyData) : VP W :=
  ⟨fun H v => ∃ p xs, v = .ref p ∧ H p = some (.lst xs) ∧ ¬ W.M p ∧ Rps K H ds xs, fun x ⟨p, xs, e, h, n, r⟩ => ⟨p, xs, e, x.2.2 _ _ h n, n, x.rps r⟩⟩
/-- a list or tuple of such data, to be read -/
@[reducible] def VP.s (W : Wd) (K : PySem.W.Frag) (ds : List PyData) : VP W :=
  ⟨fun H v => ∃ p xs, v = .ref p ∧ (RdL W K H p xs ∨ SqT K H p xs) ∧ Rps K H ds xs, fun x ⟨p, xs, e, h, r⟩ => ⟨p, xs, e, h.elim (fun h => .inl (h.st x)) (fun h => .inr (x.keepT.sq h)), x.rps r⟩⟩
section
variable {W : Wd} {K : PySem.W.Frag}
def EvP (te : TE) (σ : L2.St) (H : Hp) (p : VP W) : Prop := ∀ H1, Wx W H H1 → ∀ Q : VK, (∀ v H2, Wx W H1 H2 → p.P H2 v → Q v H2) → te σ H1 Q
end
abbrev Ev (W : Wd) (K : PySem.W.Frag) (te : TE) (σ : L2.St) (H : Hp) (d : PyData) : Prop := EvP te σ H (VP.d W K d)
abbrev EvL (W : Wd) (K : PySem.W.Frag) (te : TE) (σ : L2.St) (H : Hp) (ds : List PyData) : Prop := EvP te σ H (VP.l W K ds)
abbrev EvS (W : Wd) (K : PySem.W.Frag) (te : TE) (σ : L2.St) (H : Hp) (ds : List PyData) : Prop := EvP te σ H (VP.s W K ds)
def EvT (W : Wd) (tt : TT) (σ : L2.St) (H : Hp) (b : Bool) : Prop := ∀ H1, Wx W H H1 → ∀ Q : Bool → Hp → Prop, (∀ H2, Wx W H1 H2 → Q b H2) → tt σ H1 Q
def EvA (W : Wd) (K : PySem.W.Frag) (ta : TA) (σ : L2.St) (H : Hp) (ds : List PyData) : Prop := ∀ H1, Wx W H H1 → ∀ Q : List V → Hp → Prop, (∀ vs H2, Wx W H1 H2 → Rps K H2 ds vs → Q vs H2) → ta σ H1 Q
def EvO (W : Wd) (to : TO) (σ : L2.St) (H : Hp) (o : Option Int) : Prop := ∀ H1, Wx W H H1 → ∀ Q : Option Int → Hp → Prop, (∀ H2, Wx W H1 H2 → Q o H2) → to σ H1 Q
/-- an operation on values -/
def RV (W : Wd) (r : R2) (p q : VP W) (z : VP W) : Prop := ∀ x y H, W.J H → p.P H x → q.P H y → ∀ Q : VK, (∀ v H2, Wx W H H2 → z.P H2 v → Q v H2) → r x y H Q
def RU (W : Wd) (r : V → Hp → VK → Prop) (p z : VP W) : Prop := ∀ x H, W.J H → p.P H x → ∀ Q : VK, (∀ v H2, Wx W H H2 → z.P H2 v → Q v H2) → r x H Q
def RC (W : Wd) (K : PySem.W.Frag) (r : List V → Hp → VK → Prop) (ds : List PyData) (z : VP W) : Prop := ∀ xs H, W.J H → Rps K H ds xs → ∀ Q : VK, (∀ v H2, Wx W H H2 → z.P H2 v → Q v H2) → r xs H Q
section
variable {W : Wd} {K : PySem.W.Frag} {σ : L2.St} {H H' : Hp} {ta tb te : TE} {t u : TT} {p q z : VP W} {d e f : PyData} {ds es : List PyData}
theorem EvP.mono (x : Wx W H H') (h : EvP te σ H p) : EvP te σ H' p := fun H1 a Q k => h H1 (x.trans a) Q k
theorem EvT.mono {b : Bool} (x : Wx W H H') (h : EvT W t σ H b) : EvT W t σ H' b := fun H1 a Q k => h H1 (x.trans a) Q k
theorem EvP.imp (h : EvP te σ H p) (i : ∀ H v, W.J H → p.P H v → q.P H v) : EvP te σ H q := fun H1 a Q k => h H1 a Q fun v H2 x r => k v H2 x (i H2 v x.2.1 r)
theorem EvP.run (h : EvP te σ H p) (j : W.J H) {Q : VK} (k : ∀ v H2, Wx W H H2 → p.P H2 v → Q v H2) : te σ H Q := h H (Wx.refl j) Q k
theorem EvT.run {b : Bool} (h : EvT W t σ H b) (j : W.J H) {Q : Bool → Hp → Prop} (k : ∀ H2, Wx W H H2 → Q b H2) : t σ H Q := h H (Wx.refl j) Q k
theorem evp_var {i : Nat} {v : V} (e : σ[i]? = some (some v)) (h : p.P H v) : EvP (tVar i) σ H p := fun H1 x Q k => ⟨v, e, k v H1 (Wx.refl x.2.1) (p.st x h)⟩
theorem ev_var {i : Nat} {v : V} (e : σ[i]? = some (some v)) (h : Rp K H d v) : Ev W K (tVar i) σ H d := evp_var e h
theorem ev_c {v : V} (h : ∀ H, Rp K H d v) : Ev W K (tC v) σ H d := fun H1 x Q k => k v H1 (Wx.refl x.2.1) (h H1)
theorem ev_int {i : Int} : Ev W K (tC (.int i)) σ H (.int i) := ev_c fun _ => rp_int.mpr rfl
theorem ev_bl {i : Bool} : Ev W K (tC (.bl i)) σ H (.bool i) := ev_c fun _ => rp_bl.mpr rfl
theorem ev_str {i : Str} : Ev W K (tC (.str i)) σ H (.str i) := ev_c fun _ => rp_str.mpr rfl
theorem ev_non : Ev W K (tC .non) σ H .none := ev_c fun _ => rp_non.mpr rfl
theorem evp_op {r : R2} (ha : EvP ta σ H p) (hb : EvP tb σ H q) (hr : RV W r p q z) : EvP (tOp r ta tb) σ H z := fun H1 x Q k =>
  ha H1 x _ fun v H2 x2 hv => hb H2 (x.trans x2) _ fun u H3 x3 hu => hr v u H3 x3.2.1 (p.st x3 hv) hu Q fun y H4 x4 hy => k y H4 ((x2.trans x3).trans x4) hy
theorem evp_un {r : V → Hp → VK → Prop} (ha : EvP ta σ H p) (hr : RU W r p z) : EvP (tUn r ta) σ H z := fun H1 x Q k =>
  ha H1 x _ fun v H2 x2 hv => hr v H2 x2.2.1 hv Q fun y H4 x4 hy => k y H4 (x2.trans x4) hy
theorem rv_I0 {g : Int → Int → V} {i j : Int} (h : ∀ H, Rp K H d (g i j)) : RV W (rI0 g) (VP.d W K (.int i)) (VP.d W K (.int j)) (VP.d W K d) := fun x y H jH hx hy Q k =>
  ⟨i, j, rp_int.mp hx, rp_int.mp hy, k _ H (Wx.refl jH) (h H)⟩
theorem rv_I {C : Int → Int → Prop} {g : Int → Int → V} {i j : Int} (hc : C i j) (h : ∀ H, Rp K H d (g i j)) : RV W (rI C g) (VP.d W K (.int i)) (VP.d W K (.int j)) (VP.d W K d) := fun x y H jH hx hy Q k =>
  ⟨i, j, rp_int.mp hx, rp_int.mp hy, hc, k _ H (Wx.refl jH) (h H)⟩
theorem ev_opI0 {g : Int → Int → Int} {i j : Int} (ha : Ev W K ta σ H (.int i)) (hb : Ev W K tb σ H (.int j)) : Ev W K (tOp (rI0 fun i j => .int (g i j)) ta tb) σ H (.int (g i j)) := evp_op ha hb (rv_I0 fun _ => rp_int.mpr rfl)
theorem ev_opB0 {g : Int → Int → Bool} {i j : Int} (ha : Ev W K ta σ H (.int i)) (hb : Ev W K tb σ H (.int j)) : Ev W K (tOp (rI0 fun i j => .bl (g i j)) ta tb) σ H (.bool (g i j)) := evp_op ha hb (rv_I0 fun _ => rp_bl.mpr rfl)
theorem ev_opI {C : Int → Int → Prop} {g : Int → Int → Int} {i j : Int} (ha : Ev W K ta σ H (.int i)) (hb : Ev W K tb σ H (.int j)) (hc : C i j) : Ev W K (tOp (rI C fun i j => .int (g i j)) ta tb) σ H (.int (g i j)) := evp_op ha hb (rv_I hc fun _ => rp_int.mpr rfl)
/-- scalars -/
def sc : PyData → V
  | .bool b => .bl b
  | .int i => .int i
  | .str s => .str s
  | _ => .non
def isSc : PyData → Bool
  | .none => true
  | .bool b => true
  | .int i => true
  | .str s => true
  | _ => false
theorem rp_sc {v : V} (h : isSc d = true) (r : Rp K H d v) : v = sc d := by
  cases d with
  | none => exact rp_non.mp r
  | bool b => exact rp_bl.mp r
  | int i => exact rp_int.mp r
  | str s => exact rp_str.mp r
  | _ => cases h
theorem ev_eq (ha : Ev W K ta σ H d) (hb : Ev W K tb σ H e) (h1 : isSc d = true := by rfl) (h2 : isSc e = true := by rfl) (h3 : scal (sc d) (sc e) = true := by rfl) : Ev W K (tOp rEq ta tb) σ H (.bool (decide (sc d = sc e))) :=
  evp_op ha hb fun x y H jH hx hy Q k => by
    rw [rp_sc h1 hx, rp_sc h2 hy]
    exact ⟨h3, k _ H (Wx.refl jH) (rp_bl.mpr rfl)⟩
theorem ev_ne (ha : Ev W K ta σ H d) (hb : Ev W K tb σ H e) (h1 : isSc d = true := by rfl) (h2 : isSc e = true := by rfl) (h3 : scal (sc d) (sc e) = true := by rfl) : Ev W K (tOp rNe ta tb) σ H (.bool (!decide (sc d = sc e))) :=
  evp_op ha hb fun x y H jH hx hy Q k => by
    rw [rp_sc h1 hx, rp_sc h2 hy]
    exact ⟨h3, k _ H (Wx.refl jH) (rp_bl.mpr rfl)⟩
theorem ev_eqI {i j : Int} (ha : Ev W K ta σ H (.int i)) (hb : Ev W K tb σ H (.int j)) : Ev W K (tOp rEq ta tb) σ H (.bool (decide (i = j))) := by
  have h := ev_eq ha hb
  simp only [sc, V.int.injEq] at h
  exact h
theorem ev_neI {i j : Int} (ha : Ev W K ta σ H (.int i)) (hb : Ev W K tb σ H (.int j)) : Ev W K (tOp rNe ta tb) σ H (.bool (!decide (i = j))) := by
  have h := ev_ne ha hb
  simp only [sc, V.int.injEq] at h
  exact h
theorem ev_eqS {i j : Str} (ha : Ev W K ta σ H (.str i)) (hb : Ev W K tb σ H (.str j)) : Ev W K (tOp rEq ta tb) σ H (.bool (decide (i = j))) := by
  have h := ev_eq ha hb
  simp only [sc, V.str.injEq] at h
  exact h
theorem ev_neS {i j : Str} (ha : Ev W K ta σ H (.str i)) (hb : Ev W K tb σ H (.str j)) : Ev W K (tOp rNe ta tb) σ H (.bool (!decide (i = j))) := by
  have h := ev_ne ha hb
  simp only [sc, V.str.injEq] at h
  exact h
def isNone : PyData → Bool
  | .none => true
  | _ => false
theorem rp_isNone {v : V} (r : Rp K H d v) : decide (v = .non) = isNone d := by
  cases d with
  | none => rw [rp_non.mp r]; rfl
  | bool b => rw [rp_bl.mp r]; rfl
  | int i => rw [rp_int.mp r]; rfl
  | str s => rw [rp_str.mp r]; rfl
  | tuple ds =>
    obtain ⟨a, xs, e, _⟩ := rp_tup.mp r
    rw [e]; rfl
  | list ds => exact (rp_list r).elim
  | dict ds => exact (rp_dict r).elim
theorem ev_isN (ha : Ev W K ta σ H d) (hb : Ev W K tb σ H .none) : Ev W K (tOp (fun x y H Q => y = .non ∧ Q (.bl (decide (x = .non))) H) ta tb) σ H (.bool (isNone d)) :=
  evp_op ha hb fun x y H jH hx hy Q k => ⟨rp_non.mp hy, by rw [rp_isNone hx]; exact k _ H (Wx.refl jH) (rp_bl.mpr rfl)⟩
theorem ev_notN (ha : Ev W K ta σ H d) (hb : Ev W K tb σ H .none) : Ev W K (tOp (fun x y H Q => y = .non ∧ Q (.bl (!decide (x = .non))) H) ta tb) σ H (.bool (!isNone d)) :=
  evp_op ha hb fun x y H jH hx hy Q k => ⟨rp_non.mp hy, by rw [rp_isNone hx]; exact k _ H (Wx.refl jH) (rp_bl.mpr rfl)⟩
/-! ### tests -/
theorem et_of {b : Bool} (h : Ev W K te σ H (.bool b)) : EvT W (tTest te) σ H b := fun H1 x Q k => h H1 x _ fun v H2 x2 hv => ⟨b, rp_bl.mp hv, k H2 x2⟩
theorem et_B {b : Bool} (h : Ev W K te σ H (.bool b)) : EvT W (tB te) σ H b := fun H1 x Q k => h H1 x _ fun v H2 x2 hv => ⟨b, rp_bl.mp hv, k H2 x2⟩
theorem et_and {a b : Bool} (h1 : EvT W t σ H a) (h2 : a = true → EvT W u σ H b) : EvT W (tAnd t u) σ H (a && b) := fun H1 x Q k => h1 H1 x _ fun H2 x2 => by
  cases a with
  | true => exact h2 rfl H2 (x.trans x2) Q fun H3 x3 => k H3 (x2.trans x3)
  | false => exact k H2 x2
theorem et_or {a b : Bool} (h1 : EvT W t σ H a) (h2 : a = false → EvT W u σ H b) : EvT W (tOr t u) σ H (a || b) := fun H1 x Q k => h1 H1 x _ fun H2 x2 => by
  cases a with
  | true => exact k H2 x2
  | false => exact h2 rfl H2 (x.trans x2) Q fun H3 x3 => k H3 (x2.trans x3)
theorem et_not {a : Bool} (h1 : EvT W t σ H a) : EvT W (tNot t) σ H (!a) := fun H1 x Q k => h1 H1 x _ k
theorem et_is {a b : Bool} (h : EvT W t σ H a) (e : a = b) : EvT W t σ H b := e ▸ h
theorem ev_is (h : Ev W K te σ H d) (e : d = f) : Ev W K te σ H f := e ▸ h
theorem ev_and {a b : Bool} (h1 : Ev W K ta σ H (.bool a)) (h2 : a = true → Ev W K tb σ H (.bool b)) : Ev W K (tAndV ta tb) σ H (.bool (a && b)) := fun H1 x Q k => h1 H1 x _ fun v H2 x2 hv => ⟨a, rp_bl.mp hv, by
  cases a with
  | true => exact h2 rfl H2 (x.trans x2) Q fun v H3 x3 => k v H3 (x2.trans x3)
  | false => exact k _ H2 x2 (rp_bl.mpr rfl)⟩
theorem ev_or {a b : Bool} (h1 : Ev W K ta σ H (.bool a)) (h2 : a = false → Ev W K tb σ H (.bool b)) : Ev W K (tOrV ta tb) σ H (.bool (a || b)) := fun H1 x Q k => h1 H1 x _ fun v H2 x2 hv => ⟨a, rp_bl.mp hv, by
  cases a with
  | true => exact k _ H2 x2 (rp_bl.mpr rfl)
  | false => exact h2 rfl H2 (x.trans x2) Q fun v H3 x3 => k v H3 (x2.trans x3)⟩
theorem ev_not {a : Bool} (h1 : Ev W K ta σ H (.bool a)) : Ev W K (tNotV ta) σ H (.bool (!a)) := fun H1 x Q k => h1 H1 x _ fun v H2 x2 hv => ⟨a, rp_bl.mp hv, k _ H2 x2 (rp_bl.mpr rfl)⟩
theorem evp_if {b : Bool} (h : EvT W t σ H b) (h1 : b = true → EvP ta σ H p) (h2 : b = false → EvP tb σ H p) : EvP (tIf t ta tb) σ H p := fun H1 x Q k => h H1 x _ fun H2 x2 => by
  cases b with
  | true => exact h1 rfl H2 (x.trans x2) Q fun v H3 x3 => k v H3 (x2.trans x3)
  | false => exact h2 rfl H2 (x.trans x2) Q fun v H3 x3 => k v H3 (x2.trans x3)
theorem ev_if {b : Bool} (h : EvT W t σ H b) (h1 : b = true → Ev W K ta σ H d) (h2 : b = false → Ev W K tb σ H e) : Ev W K (tIf t ta tb) σ H (if b = true then d else e) := by
  refine evp_if h (fun hb => ?_) (fun hb => ?_)
  · rw [if_pos hb]; exact h1 hb
  · rw [if_neg (by rw [hb]; decide)]; exact h2 hb
theorem ev_chain {r r' : R2} {tc : TE} {a b : Bool} (ha : Ev W K ta σ H d) (hb : Ev W K tb σ H e) (h1 : RV W r (VP.d W K d) (VP.d W K e) (VP.d W K (.bool a))) (hc : a = true → Ev W K tc σ H f) (h2 : RV W r' (VP.d W K e) (VP.d W K f) (VP.d W K (.bool b))) :
    Ev W K (tChain r r' ta tb tc) σ H (.bool (a && b)) := fun H1 x Q k =>
  ha H1 x _ fun v H2 x2 hv => hb H2 (x.trans x2) _ fun u H3 x3 hu => h1 v u H3 x3.2.1 (x3.rp hv) hu _ fun y H4 x4 hy => ⟨a, rp_bl.mp hy, by
    cases a with
    | true => exact hc rfl H4 (((x.trans x2).trans x3).trans x4) _ fun s H5 x5 hs => h2 u s H5 x5.2.1 ((x4.trans x5).rp hu) hs Q fun y H6 x6 hy => k y H6 ((((x2.trans x3).trans x4).trans x5).trans x6) hy
    | false => exact k _ H4 ((x2.trans x3).trans x4) (rp_bl.mpr rfl)⟩
theorem rv_B0 {g : Int → Int → Bool} {i j : Int} : RV W (rI0 fun i j => .bl (g i j)) (VP.d W K (.int i)) (VP.d W K (.int j)) (VP.d W K (.bool (g i j))) := rv_I0 fun _ => rp_bl.mpr rfl
/-! ### arguments, displays, calls -/
theorem ea_nil : EvA W K tNil σ H [] := fun H1 x Q k => k [] H1 (Wx.refl x.2.1) (rps_nil.mpr rfl)
theorem ea_cons {tr : TA} (h : Ev W K ta σ H d) (hr : EvA W K tr σ H ds) : EvA W K (tCons ta tr) σ H (d :: ds) := fun H1 x Q k =>
  h H1 x _ fun v H2 x2 hv => hr H2 (x.trans x2) _ fun vs H3 x3 hs => k (v :: vs) H3 (x2.trans x3) (rps_cons.mpr ⟨v, vs, rfl, x3.rp hv, hs⟩)
theorem sz_of {n : Nat} (h : n ≤ 10000000) : n ≤ sizeLine := Nat.le_trans h (by decide)
theorem sz_lt {n : Nat} (h : n < 10000000) : n < sizeLine := Nat.lt_of_lt_of_le h (by decide)
theorem ev_tup {tr : TA} (h : EvA W K tr σ H ds) (hl : ds.length ≤ 10000000 := by first | decide | (simp; done)) : Ev W K (tTup tr) σ H (.tuple ds) := fun H1 x Q k =>
  h H1 x _ fun vs H2 x2 hs => ⟨by rw [hs.len]; exact sz_of hl, fun p hp => k _ _ (x2.trans (Wx.new x2.2.1 hp)) (rp_tup.mpr ⟨p, vs, rfl, SqT.of upd_same, (Wx.new x2.2.1 hp).rps hs⟩)⟩
theorem el_lst {tr : TA} (h : EvA W K tr σ H ds) (hl : ds.length ≤ 10000000 := by first | decide | (simp; done)) : EvL W K (tLst tr) σ H ds := fun H1 x Q k =>
  h H1 x _ fun vs H2 x2 hs => ⟨by rw [hs.len]; exact sz_of hl, fun p hp => k _ _ (x2.trans (Wx.new x2.2.1 hp)) ⟨p, vs, rfl, upd_same, Wx.nM x2.2.1 hp, (Wx.new x2.2.1 hp).rps hs⟩⟩
theorem ea_star {tr : TA} (h : EvS W K ta σ H es) (hr : EvA W K tr σ H ds) : EvA W K (StX.tStar K ta tr) σ H (es ++ ds) := fun H1 x Q k =>
  h H1 x _ fun v H2 x2 ⟨p, xs, e, hl, hs⟩ => ⟨p, xs, e, hl.elim (fun h => .inr h.1) .inl, hr H2 (x.trans x2) _ fun vs H3 x3 h3 => k _ H3 (x2.trans x3) ((x3.rps hs).app h3)⟩
theorem es_of_l (h : EvL W K te σ H ds) : EvS W K te σ H ds := h.imp fun H v _ ⟨p, xs, e, h1, h2, h3⟩ => ⟨p, xs, e, .inl ⟨SqL.of h1, h2⟩, h3⟩
theorem es_of_t (h : Ev W K te σ H (.tuple ds)) : EvS W K te σ H ds := h.imp fun H v _ r => by
  obtain ⟨a, xs, e, h1, h2⟩ := rp_tup.mp r
  exact ⟨a, xs, e, .inr h1, h2⟩
theorem evp_cb {r : List V → Hp → VK → Prop} {tr : TA} (h : EvA W K tr σ H ds) (hr : RC W K r ds z) : EvP (tCB r tr) σ H z := fun H1 x Q k =>
  h H1 x _ fun vs H2 x2 hs => hr vs H2 x2.2.1 hs Q fun v H3 x3 h3 => k v H3 (x2.trans x3) h3
/-- a built-in function of one argument, whatever that is -/
theorem evp_cb1 {r : List V → Hp → VK → Prop} (h : EvP te σ H p) (hr : RU W (fun x H Q => r [x] H Q) p z) : EvP (tCB r (tCons te tNil)) σ H z := fun H1 x Q k =>
  h H1 x _ fun v H2 x2 hv => hr v H2 x2.2.1 hv Q fun v H3 x3 h3 => k v H3 (x2.trans x3) h3
/-- the promise of a def of plain data -/
def SpD (K : PySem.W.Frag) (f : List PyData → PyData → Prop) : Sp := fun vs H Q _ => ∃ ds r, Rps K H ds vs ∧ f ds r ∧ ∀ v H', Same H H' → Rp K H' r v → Q v H'
theorem SpD.len {f : List PyData → PyData → Prop} {n : Nat} (h : ∀ ds r, f ds r → ds.length = n) : ∀ vs H Q E, SpD K f vs H Q E → vs.length = n := fun vs H Q E ⟨ds, r, h1, h2, _⟩ => by
  rw [h1.len, h ds r h2]
theorem ev_call {f : List PyData → PyData → Prop} {E : XK} {tr : TA} (h : EvA W K tr σ H ds) (hf : f ds d) : Ev W K (tCall (SpD K f) [] E tr) σ H d := fun H1 x Q k =>
  h H1 x _ fun vs H2 x2 hs => ⟨ds, d, by rw [List.append_nil]; exact hs, hf, fun v H3 s r => k v H3 (x2.trans (Wx.same x2.2.1 s)) r⟩
/-- len of a list, a tuple -/
theorem ev_len (h : EvS W K te σ H ds) : Ev W K (tCB (fun xs H Q => ∃ x n, xs = [x] ∧ LenV K x H n ∧ Q (.int n) H) (tCons te tNil)) σ H (.int ds.length) :=
  evp_cb1 h fun x H jH ⟨p, xs, e, hl, hs⟩ Q k => ⟨x, xs.length, rfl, by
    subst e
    exact hl.elim (fun h => .inl ⟨xs, h.1, rfl⟩) (fun h => .inr ⟨xs, h, rfl⟩), k _ H (Wx.refl jH) (by rw [hs.len]; exact rp_int.mpr rfl)⟩
theorem ev_lenS {s : Str} (h : Ev W K te σ H (.str s)) (hl : s.length ≤ 10000000) : Ev W K (tCB (fun xs H Q => ∃ x n, xs = [x] ∧ LenV K x H n ∧ Q (.int n) H) (tCons te tNil)) σ H (.int s.length) :=
  evp_cb1 h fun x H jH hx Q k => ⟨x, s.length, rfl, by
    rw [rp_str.mp hx]
    exact ⟨sz_of hl, rfl⟩, k _ H (Wx.refl jH) (rp_int.mpr rfl)⟩
/-- isinstance -/
def tyD : PyData → String
  | .none => "NoneType"
  | .bool _ => "bool"
  | .int _ => "int"
  | .str _ => "str"
  | .tuple _ => "tuple"
  | .list _ => "list"
  | .dict _ => "dict"
theorem rp_ty {v : V} (r : Rp K H d v) : TyX K H v (.type (tyD d)) := by
  cases d with
  | none => rw [rp_non.mp r]; exact .base .non
  | bool b => rw [rp_bl.mp r]; exact .base (.bl b)
  | int i => rw [rp_int.mp r]; exact .base (.int i)
  | str s => rw [rp_str.mp r]; exact .base (.str s)
  | tuple ds =>
    obtain ⟨a, xs, e, h, _⟩ := rp_tup.mp r
    subst e
    rcases h with (h | ⟨o, h⟩) | ⟨o, its, n, h1, h2, _⟩
    · exact .base (.tup h)
    · exact .fTuple h
    · exact .kTuple h1 h2
  | list ds => exact (rp_list r).elim
  | dict ds => exact (rp_dict r).elim
theorem ev_isi {T : String} {b : Bool} (h : Ev W K te σ H d) (hk : kitB (tyD d) T = some b) : Ev W K (tCB (rIsi K) (tCons te (tCons (tC (.ty T)) tNil))) σ H (.bool b) := fun H1 x Q k =>
  h H1 x _ fun v H2 x2 hv => ⟨v, .ty T, .type (tyD d), .type T, b, rfl, .ty T, rp_ty hv, kit_ty hk, k _ H2 x2 (rp_bl.mpr rfl)⟩
def isTup : PyData → Bool
  | .tuple _ => true
  | _ => false
def isInt : PyData → Bool
  | .int _ => true
  | .bool _ => true
  | _ => false
def isBool : PyData → Bool
  | .bool _ => true
  | _ => false
def isStr : PyData → Bool
  | .str _ => true
  | _ => false
theorem ev_isTup (h : Ev W K te σ H d) : Ev W K (tCB (rIsi K) (tCons te (tCons (tC (.ty "tuple")) tNil))) σ H (.bool (isTup d)) := ev_isi h (by cases d <;> (simp only [tyD, isTup]; decide +kernel))
theorem ev_isInt (h : Ev W K te σ H d) : Ev W K (tCB (rIsi K) (tCons te (tCons (tC (.ty "int")) tNil))) σ H (.bool (isInt d)) := ev_isi h (by cases d <;> (simp only [tyD, isInt]; decide +kernel))
theorem ev_isBool (h : Ev W K te σ H d) : Ev W K (tCB (rIsi K) (tCons te (tCons (tC (.ty "bool")) tNil))) σ H (.bool (isBool d)) := ev_isi h (by cases d <;> (simp only [tyD, isBool]; decide +kernel))
theorem ev_isStr (h : Ev W K te σ H d) : Ev W K (tCB (rIsi K) (tCons te (tCons (tC (.ty "str")) tNil))) σ H (.bool (isStr d)) := ev_isi h (by cases d <;> (simp only [tyD, isStr]; decide +kernel))
/-! ### items -/
theorem ev_ixT {i : Int} {j : Nat} (h : Ev W K ta σ H (.tuple ds)) (hi : Ev W K tb σ H (.int i)) (hj : ixN ds.length i = some j) (hd : ds[j]? = some d) : Ev W K (tOp (rIxT K) ta tb) σ H d :=
  evp_op h hi fun x y H jH hx hy Q k => by
    obtain ⟨a, xs, e, h1, h2⟩ := rp_tup.mp hx
    obtain ⟨v, hv, rv⟩ := h2.get hd
    exact ⟨a, xs, i, v, e, rp_int.mp hy, h1, by unfold atI; rw [h2.len, hj]; exact hv, k v H (Wx.refl jH) rv⟩
theorem ev_ixL {i : Int} {j : Nat} (h : EvS W K ta σ H ds) (hi : Ev W K tb σ H (.int i)) (hj : ixN ds.length i = some j) (hd : ds[j]? = some d) : Ev W K (tOp (rIx K) ta tb) σ H d :=
  evp_op h hi fun x y H jH ⟨a, xs, e, h1, h2⟩ hy Q k => by
    obtain ⟨v, hv, rv⟩ := h2.get hd
    have ha : atI xs i = some v := by unfold atI; rw [h2.len, hj]; exact hv
    rcases h1 with h1 | h1
    · exact .inl ⟨a, xs, i, v, e, rp_int.mp hy, h1.1, ha, k v H (Wx.refl jH) rv⟩
    · exact .inr (.inl ⟨a, xs, i, v, e, rp_int.mp hy, h1, ha, k v H (Wx.refl jH) rv⟩)
theorem ixN_nat {n j : Nat} (h : j < n) : ixN n (j : Int) = some j := by
  unfold ixN
  rw [if_pos (by omega), if_pos (by omega)]
  simp
/-! ### statements -/
variable {D : Ends} {t1 t2 : TS}
theorem st_ret (j : W.J H) (h : EvP te σ H p) (k : ∀ v H', Wx W H H' → p.P H' v → D.rt v H') : tRet te D σ H := h.run j k
theorem st_if {b : Bool} (j : W.J H) (h : EvT W t σ H b) (h1 : b = true → ∀ H', Wx W H H' → t1 D σ H') (h2 : b = false → ∀ H', Wx W H H' → t2 D σ H') : tIfS t t1 t2 D σ H := h.run j fun H' x => by
  cases b with
  | true => exact h1 rfl H' x
  | false => exact h2 rfl H' x
theorem st_set {i : Nat} (j : W.J H) (h : EvP te σ H p) (k : ∀ v H', Wx W H H' → p.P H' v → D.nx (σ.set i (some v)) H') : tAsg te (gName i) D σ H := h.run j k
theorem st_drop (j : W.J H) (h : EvP te σ H p) (k : ∀ v H', Wx W H H' → p.P H' v → D.nx σ H') : tDrop te D σ H := h.run j k
end
/-- a pure def's end -/
theorem pu {K : PySem.W.Frag} {H H' : Hp} {Q : VK} {r d : PyData} {v : V} (k : ∀ v H', Same H H' → Rp K H' r v → Q v H') (x : Wx W0 H H') (h : Rp K H' d v) (e : d = r) : Q v H' := k v H' (fun b o q => x.2.2 b o q (fun z => z)) (e ▸ h)
end Fd
-- Ev2
namespace Fd
open PySem PySem.Spec PyProof.Rows L2
/-! ### what is walked -/
structure Goes (W : Wd) (K : PySem.W.Frag) (J : It) (H2 : Hp) (ds : List PyData) : Prop where
  go : ∀ i H, i < ds.length → Wx W H2 H → J.go i H
  stop : ∀ H, Wx W H2 H → J.stop ds.length H
  yld : ∀ i H x H', i < ds.length → Wx W H2 H → J.yld i H x H' → Wx W H H' ∧ ∀ d, ds[i]? = some d → Rp K H' d x
theorem Goes.walk {W : Wd} {K : PySem.W.Frag} {J : It} {H2 : Hp} {ds : List PyData} (g : Goes W K J H2 ds) :
    Walk J ds.length (fun H => Wx W H2 H) (fun i H x H' => Wx W H H' ∧ ∀ d, ds[i]? = some d → Rp K H' d x) :=
  ⟨fun i H hi x => g.go i H hi x, fun H x => g.stop H x, fun i H x H' hi y q => g.yld i H x H' hi y q⟩
theorem Goes.of {W : Wd} {K : PySem.W.Frag} {J : It} {H2 : Hp} {ds : List PyData} {G : Hp → Prop} {Y : Nat → Hp → V → Hp → Prop} (w : Walk J ds.length G Y) (hg : ∀ H, Wx W H2 H → G H)
    (hy : ∀ i H x H', i < ds.length → Wx W H2 H → Y i H x H' → Wx W H H' ∧ ∀ d, ds[i]? = some d → Rp K H' d x) : Goes W K J H2 ds :=
  ⟨fun i H hi x => w.goes i H hi (hg H x), fun H x => w.stops H (hg H x), fun i H x H' hi y q => hy i H x H' hi y (w.yields i H x H' hi (hg H y) q)⟩
def Src (W : Wd) (K : PySem.W.Frag) (wi : TI) (σ : L2.St) (H : Hp) (ds : List PyData) : Prop :=
  ∀ H1, Wx W H H1 → ∀ R : It → Hp → Prop, (∀ J H2, Wx W H1 H2 → Goes W K J H2 ds → R J H2) → wi σ H1 R
/-- a list to be read -/
@[reducible] def VP.r (W : Wd) (K : PySem.W.Frag) (ds : List PyData) : VP W :=
  ⟨fun H v => ∃ p xs, v = .ref p ∧ RdL W K H p xs ∧ Rps K H ds xs, fun x ⟨p, xs, e, h, r⟩ => ⟨p, xs, e, h.st x, x.rps r⟩⟩
section
variable {W : Wd} {K : PySem.W.Frag} {σ : L2.St} {H H' : Hp} {ta tb te : TE} {t u tt : TT} {p q z : VP W} {d e f : PyData} {ds es : List PyData}
theorem er_of_l (h : EvL W K te σ H ds) : EvP te σ H (VP.r W K ds) := h.imp fun H v _ ⟨p, xs, e, h1, h2, h3⟩ => ⟨p, xs, e, ⟨SqL.of h1, h2⟩, h3⟩
theorem es_of_r (h : EvP te σ H (VP.r W K ds)) : EvS W K te σ H ds := h.imp fun H v _ ⟨p, xs, e, h1, h3⟩ => ⟨p, xs, e, .inl h1, h3⟩
theorem yAt {xs : List V} {i : Nat} {x : V} {H2 : Hp} (h : Rps K H2 ds xs) (e : xs[i]? = some x) : ∀ d, ds[i]? = some d → Rp K H2 d x := fun d hd => by
  obtain ⟨v, hv, r⟩ := h.get hd
  rw [e] at hv
  cases hv
  exact r
theorem src_list (h : EvP te σ H (VP.r W K ds)) : Src W K (iList K te) σ H ds := fun H1 x R k =>
  h H1 x _ fun v H2 x2 ⟨p, xs, e, hl, hs⟩ => ⟨p, e, ⟨xs, hl.1⟩, k _ H2 x2 (by
    have hn := hs.len
    refine Goes.of (hn ▸ walk_list (K := K) (a := p) (xs := xs)) (fun H x => (hl.st x).1) fun i H x H' hi y q => ?_
    obtain ⟨e1, e2⟩ := q
    subst e1
    exact ⟨Wx.refl y.2.1, yAt (y.rps hs) e2⟩)⟩
theorem src_tup (h : Ev W K te σ H (.tuple ds)) : Src W K (iTup K te) σ H ds := fun H1 x R k =>
  h H1 x _ fun v H2 x2 hv => by
    obtain ⟨p, xs, e, hl, hs⟩ := rp_tup.mp hv
    refine ⟨p, e, ⟨xs, hl⟩, k _ H2 x2 ?_⟩
    have hn := hs.len
    refine Goes.of (hn ▸ walk_tup (K := K) (a := p) (xs := xs)) (fun H x => x.keepT.sq hl) fun i H x H' hi y q => ?_
    obtain ⟨e1, e2⟩ := q
    subst e1
    exact ⟨Wx.refl y.2.1, yAt (y.rps hs) e2⟩
def sign (c : Nat) : Str := ⟨#[c]⟩
theorem src_str {s : Str} (h : Ev W K te σ H (.str s)) : Src W K (iStr te) σ H (s.cps.toList.map fun c => .str (sign c)) := fun H1 x R k =>
  h H1 x _ fun v H2 x2 hv => by
    refine ⟨s, rp_str.mp hv, k _ H2 x2 ?_⟩
    have hn : s.cps.size = (s.cps.toList.map fun c => PyData.str (sign c)).length := by simp
    refine Goes.of (hn ▸ walk_str (z := s)) (fun H x => trivial) fun i H x H' hi y q => ?_
    obtain ⟨e1, c, e2, e3⟩ := q
    subst e1
    refine ⟨Wx.refl y.2.1, fun d hd => ?_⟩
    rw [List.getElem?_map, Array.getElem?_toList, e2] at hd
    cases hd
    exact rp_str.mpr e3
def rngD (lo : Int) (n : Nat) : List PyData := (List.range n).map fun i => .int (lo + (i : Nat))
theorem src_rng {lo : Int} {n : Nat} {H2 : Hp} : Goes W K (Itr lo n) H2 (rngD lo n) := by
  have hl : (rngD lo n).length = n := by simp [rngD]
  refine Goes.of (G := fun _ => True) (Y := YFn fun i => .int (lo + (i : Nat))) (by rw [hl]; exact walk_range (lo := lo) (n := n)) (fun H x => trivial) fun i H x H' hi y q => ?_
  obtain ⟨e1, e2⟩ := q
  subst e1
  refine ⟨Wx.refl y.2.1, fun d hd => ?_⟩
  have hi' : i < n := by omega
  unfold rngD at hd
  rw [List.getElem?_map, List.getElem?_range hi'] at hd
  cases hd
  exact rp_int.mpr e2
theorem src_range1 {j : Int} (h : Ev W K te σ H (.int j)) (h1 : -(2 ^ 62) ≤ j) (h2 : j < 2 ^ 62) : Src W K (iRng1 (tCons te tNil)) σ H (rngD 0 j.toNat) := fun H1 x R k =>
  h H1 x _ fun v H2 x2 hv => ⟨j, by rw [rp_int.mp hv], h1, h2, k _ H2 x2 src_rng⟩
theorem src_range2 {i j : Int} (ha : Ev W K ta σ H (.int i)) (hb : Ev W K tb σ H (.int j)) (h : -(2 ^ 62) ≤ i ∧ i < 2 ^ 62 ∧ -(2 ^ 62) ≤ j ∧ j < 2 ^ 62) : Src W K (iRng2 (tCons ta (tCons tb tNil))) σ H (rngD i (j - i).toNat) := fun H1 x R k =>
  ha H1 x _ fun v H2 x2 hv => hb H2 (x.trans x2) _ fun u H3 x3 hu => ⟨i, j, by rw [rp_int.mp hv, rp_int.mp hu], h, k _ H3 (x2.trans x3) src_rng⟩
def pairD (d e : PyData) : PyData := .tuple [d, e]
theorem src_zipT (ha : Ev W K ta σ H (.tuple ds)) (hb : Ev W K tb σ H (.tuple es)) : Src W K (RZ.iZipA K (tCons ta (tCons tb tNil))) σ H (List.zipWith pairD ds es) := fun H1 x R k =>
  ha H1 x _ fun v H2 x2 hv => hb H2 (x.trans x2) _ fun u H3 x3 hu => by
    obtain ⟨p, xs, e, hl, hs⟩ := rp_tup.mp (x3.rp hv)
    obtain ⟨p', ys, e', hl', hs'⟩ := rp_tup.mp hu
    refine ⟨p, p', xs, ys, by rw [e, e'], .inr ⟨hl, hl', k _ H3 (x2.trans x3) ?_⟩⟩
    have h1 := hs.len
    have h2 := hs'.len
    have hn : (List.zipWith pairD ds es).length = min ds.length es.length := List.length_zipWith
    refine ⟨fun i H hi x => ?_, fun H x => ⟨xs, ys, x.keepT.sq hl, x.keepT.sq hl', by omega⟩, fun i H x H' hi y q => ?_⟩
    · have i1 : i < xs.length := by omega
      have i2 : i < ys.length := by omega
      exact ⟨xs, ys, xs[i], ys[i], x.keepT.sq hl, x.keepT.sq hl', by simp [i1], by simp [i2]⟩
    · obtain ⟨T, a, b, e1, e2, e3, e4, e5⟩ := q
      subst e3
      refine ⟨Wx.new y.2.1 e2, fun d hd => ?_⟩
      rw [List.getElem?_zipWith] at hd
      cases h1 : ds[i]? with
      | none => rw [h1] at hd; cases hd
      | some a' =>
        cases h2 : es[i]? with
        | none => rw [h1, h2] at hd; cases hd
        | some b' =>
          rw [h1, h2] at hd
          cases hd
          have r1 := yAt (y.rps hs) (e4 xs (y.keepT.sq hl)) a' h1
          have r2 := yAt (y.rps hs') (e5 ys (y.keepT.sq hl')) b' h2
          exact rp_tup.mpr ⟨T, [a, b], e1, SqT.of upd_same, (Wx.new y.2.1 e2).rps (rps_cons.mpr ⟨a, [b], rfl, r1, Rps.one r2⟩)⟩
theorem src_zipL (ha : EvP ta σ H (VP.r W K ds)) (hb : EvP tb σ H (VP.r W K es)) : Src W K (RZ.iZipA K (tCons ta (tCons tb tNil))) σ H (List.zipWith pairD ds es) := fun H1 x R k =>
  ha H1 x _ fun v H2 x2 hv => hb H2 (x.trans x2) _ fun u H3 x3 hu => by
    obtain ⟨p, xs, e, hl, hs⟩ := (VP.r W K ds).st x3 hv
    obtain ⟨p', ys, e', hl', hs'⟩ := hu
    refine ⟨p, p', xs, ys, by rw [e, e'], .inl ⟨hl.1, hl'.1, k _ H3 (x2.trans x3) ?_⟩⟩
    have h1 := hs.len
    have h2 := hs'.len
    have hn : (List.zipWith pairD ds es).length = min ds.length es.length := List.length_zipWith
    refine ⟨fun i H hi x => ?_, fun H x => ⟨xs, ys, (hl.st x).1, (hl'.st x).1, by omega⟩, fun i H x H' hi y q => ?_⟩
    · have i1 : i < xs.length := by omega
      have i2 : i < ys.length := by omega
      exact ⟨xs, ys, xs[i], ys[i], (hl.st x).1, (hl'.st x).1, by simp [i1], by simp [i2]⟩
    · obtain ⟨T, a, b, e1, e2, e3, e4, e5⟩ := q
      subst e3
      refine ⟨Wx.new y.2.1 e2, fun d hd => ?_⟩
      rw [List.getElem?_zipWith] at hd
      cases h1 : ds[i]? with
      | none => rw [h1] at hd; cases hd
      | some a' =>
        cases h2 : es[i]? with
        | none => rw [h1, h2] at hd; cases hd
        | some b' =>
          rw [h1, h2] at hd
          cases hd
          have r1 := yAt (y.rps hs) (e4 xs (hl.st y).1) a' h1
          have r2 := yAt (y.rps hs') (e5 ys (hl'.st y).1) b' h2
          exact rp_tup.mpr ⟨T, [a, b], e1, SqT.of upd_same, (Wx.new y.2.1 e2).rps (rps_cons.mpr ⟨a, [b], rfl, r1, Rps.one r2⟩)⟩
/-! ### comprehensions -/
/-- one turn over d: what is made of it, or nothing -/
def LcStep (W : Wd) (K : PySem.W.Frag) (σ : L2.St) (vs : List Nat) (g : TG) (tt : TT) (te : TE) (H : Hp) (d : PyData) (out : Option PyData) : Prop :=
  ∀ H1 x, Wx W H H1 → Rp K H1 d x → ∀ (Qy : V → Hp → Prop) (Qn : Hp → Prop), (∀ e, out = some e → ∀ y H2, Wx W H1 H2 → Rp K H2 e y → Qy y H2) → (out = none → ∀ H2, Wx W H1 H2 → Qn H2) →
    g x (wipe σ vs) H1 fun σ2 H2 => wipe σ2 vs = wipe σ vs ∧ tt σ2 H2 fun b H3 => if b = true then te σ2 H3 Qy else Qn H3
theorem el_lc {wi : TI} {g : TG} {vs : List Nat} {fo : PyData → Option PyData} (hs : Src W K wi σ H ds) (hl : ds.length ≤ 10000000) (hf : ∀ d ∈ ds, LcStep W K σ vs g tt te H d (fo d)) : EvL W K (tLc wi g tt te vs) σ H (ds.filterMap fo) := fun H1 x Q k =>
  hs H1 x _ fun J H2 x2 G D hD => by
    refine lc_it G.walk (fun i Hi => Wx W H2 Hi ∧ ∃ acc, Hi D = some (.lst acc) ∧ Rps K Hi ((ds.take i).filterMap fo) acc) ⟨Wx.new x2.2.1 hD, [], upd_same, by rw [List.take_zero]; exact rps_nil.mpr rfl⟩ (fun i Hi _ h => h.1) (fun i y Hi Hi' hi ⟨xi, acc, ha, hr⟩ ⟨xy, hy⟩ => ?_) fun Hi ⟨xi, acc, ha, hr⟩ => ?_
    · have hd : ds[i]? = some ds[i] := List.getElem?_eq_getElem hi
      have hx := hy _ hd
      have nD : ¬ W.M D := Wx.nM x2.2.1 hD
      have tk : (ds.take (i + 1)).filterMap fo = (ds.take i).filterMap fo ++ (fo ds[i]).toList := by
        rw [List.take_add_one, hd, List.filterMap_append]
        congr 1
      refine hf ds[i] (List.getElem_mem hi) Hi' y ((x.trans x2).trans (xi.trans xy)) hx _ _ (fun e he v H4 x4 r4 => ?_) fun he H4 x4 => ?_
      · have h4 : H4 D = some (.lst acc) := x4.2.2 _ _ (xy.2.2 _ _ ha nD) nD
        have lacc : acc.length ≤ ds.length := by
          rw [hr.len]
          refine Nat.le_trans (List.length_filterMap_le _ _) ?_
          rw [List.length_take]
          omega
        have lacc2 : acc.length < 10000000 := by
          have : acc.length ≤ i := by
            rw [hr.len]
            refine Nat.le_trans (List.length_filterMap_le _ _) ?_
            rw [List.length_take]
            omega
          omega
        refine ⟨acc, h4, sz_lt lacc2, Wx.mut ((xi.trans xy).trans x4) hD h4 rfl, acc ++ [v], upd_same, ?_⟩
        rw [tk, he]
        have kt : KeepT H4 (upd H4 D (.lst (acc ++ [v]))) := KeepT.mut h4 rfl
        exact (Rps.mono kt _ _ ((xy.trans x4).rps hr)).app (Rps.one (Rp.mono kt _ _ r4))
      · refine ⟨(xi.trans xy).trans x4, acc, x4.2.2 _ _ (xy.2.2 _ _ ha nD) nD, ?_⟩
        rw [tk, he]
        simp only [Option.toList, List.append_nil]
        exact (xy.trans x4).rps hr
    · refine k _ Hi (x2.trans xi) ⟨D, acc, rfl, ha, Wx.nM x2.2.1 hD, ?_⟩
      rw [List.take_length] at hr
      exact hr
theorem lcs_name {i : Nat} {vs : List Nat} (he : ∀ H1 x, Wx W H H1 → Rp K H1 d x → Ev W K te ((wipe σ vs).set i (some x)) H1 e) (hw : ∀ x : V, wipe ((wipe σ vs).set i (some x)) vs = wipe σ vs := by intro _; rfl) : LcStep W K σ vs (gName i) tYes te H d (some e) :=
  fun H1 x x1 hx Qy Qn k1 k2 => ⟨hw x, by
    show (if true = true then te ((wipe σ vs).set i (some x)) H1 Qy else Qn H1)
    rw [if_pos rfl]
    exact (he H1 x x1 hx).run x1.2.1 fun v H2 x2 r => k1 e rfl v H2 x2 r⟩
theorem lcs_nameIf {i : Nat} {vs : List Nat} {b : Bool} (ht : ∀ H1 x, Wx W H H1 → Rp K H1 d x → EvT W tt ((wipe σ vs).set i (some x)) H1 b) (he : b = true → ∀ H1 x, Wx W H H1 → Rp K H1 d x → Ev W K te ((wipe σ vs).set i (some x)) H1 e) (hw : ∀ x : V, wipe ((wipe σ vs).set i (some x)) vs = wipe σ vs := by intro _; rfl) :
    LcStep W K σ vs (gName i) tt te H d (if b = true then some e else none) :=
  fun H1 x x1 hx Qy Qn k1 k2 => ⟨hw x, (ht H1 x x1 hx).run x1.2.1 fun H2 x2 => by
    cases b with
    | true => exact (he rfl H2 x (x1.trans x2) (x2.rp hx)).run x2.2.1 fun v H3 x3 r => k1 e rfl v H3 (x2.trans x3) r
    | false => exact k2 rfl H2 x2⟩
/-- the target a pair -/
theorem lcs_pair {i j : Nat} {vs : List Nat} {d1 d2 : PyData} (he : ∀ H1 x y, Wx W H H1 → Rp K H1 d1 x → Rp K H1 d2 y → Ev W K te (((wipe σ vs).set i (some x)).set j (some y)) H1 e) (hw : ∀ x y : V, wipe (((wipe σ vs).set i (some x)).set j (some y)) vs = wipe σ vs := by intro _ _; rfl) :
    LcStep W K σ vs (gTup K 2 (gCons (gName i) (gCons (gName j) gNil))) tYes te H (pairD d1 d2) (some e) :=
  fun H1 x x1 hx Qy Qn k1 k2 => by
    obtain ⟨a, xs, ex, hs, hr⟩ := rp_tup.mp hx
    obtain ⟨v, r, e1, r1, hr⟩ := rps_cons.mp hr
    obtain ⟨u, r', e2, r2, hr⟩ := rps_cons.mp hr
    rw [rps_nil.mp hr] at e2
    rw [e2] at e1
    refine ⟨a, xs, ex, hs, by rw [e1]; rfl, v, [u], e1, u, [], rfl, rfl, hw v u, ?_⟩
    show (if true = true then te (((wipe σ vs).set i (some v)).set j (some u)) H1 Qy else Qn H1)
    rw [if_pos rfl]
    exact (he H1 v u x1 r1 r2).run x1.2.1 fun v H2 x2 r => k1 e rfl v H2 x2 r
/-! ### built-ins over lists -/
theorem el_map {wi : TI} {g : TG} {vs : List Nat} {fo : PyData → PyData} (hs : Src W K wi σ H ds) (hl : ds.length ≤ 10000000) (hf : ∀ d ∈ ds, LcStep W K σ vs g tt te H d (some (fo d))) : EvL W K (tLc wi g tt te vs) σ H (ds.map fo) := by
  have h := el_lc (fo := fun d => some (fo d)) hs hl hf
  rw [List.filterMap_eq_map'] at h
  exact h
theorem ev_all {bs : List Bool} (h : EvL W K te σ H (bs.map .bool)) : Ev W K (tCB (rAll K) (tCons te tNil)) σ H (.bool (bs.all id)) :=
  evp_cb1 h fun x H jH ⟨p, xs, e, hl, _, hs⟩ Q k => ⟨p, bs, by rw [e], SqL.of (by rw [hl, hs.of_bls]), k _ H (Wx.refl jH) (rp_bl.mpr rfl)⟩
theorem ev_tupOf (h : EvL W K te σ H ds) : Ev W K (tCB (fun xs H Q => ∃ p ys, xs = [.ref p] ∧ ((SqL K H p ys ∧ ∀ l, H l = none → Q (.ref l) (upd H l (.tup ys))) ∨ (SqT K H p ys ∧ Q (.ref p) H))) (tCons te tNil)) σ H (.tuple ds) :=
  evp_cb1 h fun x H jH ⟨p, xs, e, hl, _, hs⟩ Q k => ⟨p, xs, by rw [e], .inl ⟨SqL.of hl, fun l hn => k _ _ (Wx.new jH hn) (rp_tup.mpr ⟨l, xs, rfl, SqT.of upd_same, (Wx.new jH hn).rps hs⟩)⟩⟩
theorem el_listOf (h : EvS W K te σ H ds) : EvL W K (tCB (fun xs H Q => ∃ p ys, xs = [.ref p] ∧ (SqL K H p ys ∨ SqT K H p ys) ∧ ∀ l, H l = none → Q (.ref l) (upd H l (.lst ys))) (tCons te tNil)) σ H ds :=
  evp_cb1 h fun x H jH ⟨p, xs, e, hl, hs⟩ Q k => ⟨p, xs, by rw [e], hl.elim (fun h => .inl h.1) .inr, fun l hn => k _ _ (Wx.new jH hn) ⟨l, xs, rfl, upd_same, Wx.nM jH hn, (Wx.new jH hn).rps hs⟩⟩
/-! ### texts -/
theorem ev_addS {a b : Str} (ha : Ev W K ta σ H (.str a)) (hb : Ev W K tb σ H (.str b)) (hl : a.length + b.length ≤ 10000000) : Ev W K (tOp (fun x y H Q => ∃ i j, x = .str i ∧ y = .str j ∧ i.length + j.length ≤ sizeLine ∧ Q (.str (i ++ j)) H) ta tb) σ H (.str (a ++ b)) :=
  evp_op ha hb fun x y H jH hx hy Q k => ⟨a, b, rp_str.mp hx, rp_str.mp hy, sz_of hl, k _ H (Wx.refl jH) (rp_str.mpr rfl)⟩
theorem el_split {a b : Str} (ha : Ev W K ta σ H (.str a)) (hb : Ev W K tb σ H (.str b)) (hb0 : (b.length == 0) = false := by rfl) (hl : a.length ≤ 10000000) :
    EvL W K (tM1 (fun x xs H Q => ∃ a b, x = .str a ∧ xs = [.str b] ∧ (b.length == 0) = false ∧ a.length + 2 ≤ sizeLine ∧ rNewStrs (Txt.split a b) H Q) ta tb) σ H ((Txt.split a b).map .str) := fun H1 x Q k =>
  ha H1 x _ fun v H2 x2 hv => ⟨⟨a, rp_str.mp hv⟩, hb H2 (x.trans x2) _ fun u H3 x3 hu => ⟨a, b, rp_str.mp hv, by rw [rp_str.mp hu], hb0, Nat.le_trans (Nat.add_le_add_right hl 2) (by decide), fun p hp =>
    k _ _ ((x2.trans x3).trans (Wx.new x3.2.1 hp)) ⟨p, _, rfl, upd_same, Wx.nM x3.2.1 hp, Rps.strs _⟩⟩⟩
theorem ev_partition {a b : Str} (ha : Ev W K ta σ H (.str a)) (hb : Ev W K tb σ H (.str b)) (hb0 : (b.length == 0) = false := by rfl) (hl : a.length ≤ 10000000) :
    Ev W K (tM1 (fun x xs H Q => ∃ a b, x = .str a ∧ xs = [.str b] ∧ (b.length == 0) = false ∧ a.length ≤ sizeLine ∧ ∀ p, H p = none → Q (.ref p) (upd H p (.tup [.str (Txt.partition a b).1, .str (Txt.partition a b).2.1, .str (Txt.partition a b).2.2]))) ta tb) σ H
      (.tuple [.str (Txt.partition a b).1, .str (Txt.partition a b).2.1, .str (Txt.partition a b).2.2]) := fun H1 x Q k =>
  ha H1 x _ fun v H2 x2 hv => ⟨⟨a, rp_str.mp hv⟩, hb H2 (x.trans x2) _ fun u H3 x3 hu => ⟨a, b, rp_str.mp hv, by rw [rp_str.mp hu], hb0, sz_of hl, fun p hp =>
    k _ _ ((x2.trans x3).trans (Wx.new x3.2.1 hp)) (rp_tup.mpr ⟨p, _, rfl, SqT.of upd_same, Rps.strs [_, _, _]⟩)⟩⟩
theorem ev_join {a : Str} {ys : List Str} (ha : Ev W K ta σ H (.str a)) (hb : EvS W K tb σ H (ys.map .str)) (hl : (ys.map (·.length)).sum + ys.length * a.length ≤ 10000000) :
    Ev W K (tM1 (fun x xs H Q => ∃ a p, ∃ ys : List Str, x = .str a ∧ xs = [.ref p] ∧ (SqL K H p (ys.map V.str) ∨ SqT K H p (ys.map V.str)) ∧
      (ys.map (·.length)).sum + ys.length * a.length ≤ 16777216 ∧ Q (.str (Txt.join a ys)) H) ta tb) σ H (.str (Txt.join a ys)) := fun H1 x Q k =>
  ha H1 x _ fun v H2 x2 hv => ⟨⟨a, rp_str.mp hv⟩, hb H2 (x.trans x2) _ fun u H3 x3 ⟨p, xs, e, h, hs⟩ => ⟨a, p, ys, rp_str.mp hv, by rw [e], by
    rw [← hs.of_strs]
    exact h.elim (fun h => .inl h.1) .inr, Nat.le_trans hl (by decide), k _ H3 (x2.trans x3) (rp_str.mpr rfl)⟩⟩
theorem ev_inSign {c : Nat} {s : Str} (ha : Ev W K ta σ H (.str (sign c))) (hb : Ev W K tb σ H (.str s)) : Ev W K (tOp (fun x y H Q => ∃ (c : Nat) (z : Str), x = .str ⟨#[c]⟩ ∧ y = .str z ∧ Q (.bl (decide (c ∈ z.cps.toList))) H) ta tb) σ H (.bool (decide (c ∈ s.cps.toList))) :=
  evp_op ha hb fun x y H jH hx hy Q k => ⟨c, s, rp_str.mp hx, rp_str.mp hy, k _ H (Wx.refl jH) (rp_bl.mpr rfl)⟩
theorem ev_notInSign {c : Nat} {s : Str} (ha : Ev W K ta σ H (.str (sign c))) (hb : Ev W K tb σ H (.str s)) : Ev W K (tOp (fun x y H Q => ∃ (c : Nat) (z : Str), x = .str ⟨#[c]⟩ ∧ y = .str z ∧ Q (.bl (!decide (c ∈ z.cps.toList))) H) ta tb) σ H (.bool (!decide (c ∈ s.cps.toList))) :=
  evp_op ha hb fun x y H jH hx hy Q k => ⟨c, s, rp_str.mp hx, rp_str.mp hy, k _ H (Wx.refl jH) (rp_bl.mpr rfl)⟩
theorem ev_ixS {s : Str} {i : Int} {j c : Nat} (h : Ev W K ta σ H (.str s)) (hi : Ev W K tb σ H (.int i)) (hl : s.length ≤ 10000000) (hj : ixN s.cps.toList.length i = some j) (hd : s.cps.toList[j]? = some c) : Ev W K (tOp rIxS ta tb) σ H (.str (sign c)) :=
  evp_op h hi fun x y H jH hx hy Q k => ⟨s, i, c, rp_str.mp hx, rp_int.mp hy, sz_of hl, by unfold atI; rw [hj]; exact hd, k _ H (Wx.refl jH) (rp_str.mpr rfl)⟩
theorem ev_intS {s : Str} {n : Int} (h : Ev W K te σ H (.str s)) (hn : PySem.intText? s = some n) (hl : s.length ≤ 640) : Ev W K (tCB (fun xs H Q => ∃ a n, xs = [.str a] ∧ PySem.intText? a = some n ∧ a.length ≤ 640 ∧ Q (.int n) H) (tCons te tNil)) σ H (.int n) :=
  evp_cb1 h fun x H jH hx Q k => ⟨s, n, by rw [rp_str.mp hx], hn, hl, k _ H (Wx.refl jH) (rp_int.mpr rfl)⟩
theorem ev_strI {i : Int} (h : Ev W K te σ H (.int i)) (hl : i.natAbs.log2 < 1920) : Ev W K (tCB (fun xs H Q => ∃ i, xs = [.int i] ∧ i.natAbs.log2 < 1920 ∧ Q (.str (toString i)) H) (tCons te tNil)) σ H (.str (toString i)) :=
  evp_cb1 h fun x H jH hx Q k => ⟨i, by rw [rp_int.mp hx], hl, k _ H (Wx.refl jH) (rp_str.mpr rfl)⟩
/-- int(n), int(b) -/
theorem ev_int1 {i : Int} (h : Ev W K te σ H (.int i)) : Ev W K (tCB (fun xs H Q => (∃ i, xs = [.int i] ∧ Q (.int i) H) ∨ ∃ k, xs = [.bl k] ∧ Q (.int (if k then 1 else 0)) H) (tCons te tNil)) σ H (.int i) :=
  evp_cb1 h fun x H jH hx Q k => .inl ⟨i, by rw [rp_int.mp hx], k _ H (Wx.refl jH) (rp_int.mpr rfl)⟩
theorem ev_int1b {b : Bool} (h : Ev W K te σ H (.bool b)) : Ev W K (tCB (fun xs H Q => (∃ i, xs = [.int i] ∧ Q (.int i) H) ∨ ∃ k, xs = [.bl k] ∧ Q (.int (if k then 1 else 0)) H) (tCons te tNil)) σ H (.int (if b then 1 else 0)) :=
  evp_cb1 h fun x H jH hx Q k => .inr ⟨b, by rw [rp_bl.mp hx], k _ H (Wx.refl jH) (rp_int.mpr rfl)⟩
/-! ### data compared, members -/
theorem ev_eqD (ha : Ev W K ta σ H d) (hb : Ev W K tb σ H e) (h1 : SeqAt.shaped d = true) (h2 : SeqAt.shaped e = true) : Ev W K (tOp (rEqD K) ta tb) σ H (.bool (PyData.eqv d e)) :=
  evp_op ha hb fun x y H jH hx hy Q k => ⟨d, e, Rp.dp d x hx, Rp.dp e y hy, h1, h2, k _ H (Wx.refl jH) (rp_bl.mpr rfl)⟩
theorem ev_neD (ha : Ev W K ta σ H d) (hb : Ev W K tb σ H e) (h1 : SeqAt.shaped d = true) (h2 : SeqAt.shaped e = true) : Ev W K (tOp (rNeD K) ta tb) σ H (.bool (!PyData.eqv d e)) :=
  evp_op ha hb fun x y H jH hx hy Q k => ⟨d, e, Rp.dp d x hx, Rp.dp e y hy, h1, h2, k _ H (Wx.refl jH) (rp_bl.mpr rfl)⟩
theorem dp_list {p : Addr} {xs : List V} (h : SqL K H p xs) (r : Rps K H ds xs) : Dp K H (.ref p) (.list ds) := .lst h (Rps.dp ds xs r)
/-- a list against a list -/
theorem ev_eqL (ha : EvP ta σ H (VP.r W K ds)) (hb : EvP tb σ H (VP.r W K es)) (h1 : SeqAt.shaped (.list ds) = true) (h2 : SeqAt.shaped (.list es) = true) : Ev W K (tOp (rEqD K) ta tb) σ H (.bool (PyData.eqv (.list ds) (.list es))) :=
  evp_op ha hb fun x y H jH ⟨p, xs, e, hl, hs⟩ ⟨p', ys, e', hl', hs'⟩ Q k => by
    rw [e, e']
    exact ⟨_, _, dp_list hl.1 hs, dp_list hl'.1 hs', h1, h2, k _ H (Wx.refl jH) (rp_bl.mpr rfl)⟩
theorem ev_neL (ha : EvP ta σ H (VP.r W K ds)) (hb : EvP tb σ H (VP.r W K es)) (h1 : SeqAt.shaped (.list ds) = true) (h2 : SeqAt.shaped (.list es) = true) : Ev W K (tOp (rNeD K) ta tb) σ H (.bool (!PyData.eqv (.list ds) (.list es))) :=
  evp_op ha hb fun x y H jH ⟨p, xs, e, hl, hs⟩ ⟨p', ys, e', hl', hs'⟩ Q k => by
    rw [e, e']
    exact ⟨_, _, dp_list hl.1 hs, dp_list hl'.1 hs', h1, h2, k _ H (Wx.refl jH) (rp_bl.mpr rfl)⟩
theorem rps_sc : ∀ {ds : List PyData} {xs : List V}, (∀ d ∈ ds, isSc d = true) → Rps K H ds xs → xs = ds.map sc
  | [], xs, _, h => rps_nil.mp h
  | d :: ds, xs, hh, h => by
    obtain ⟨v, r, e, h1, h2⟩ := rps_cons.mp h
    rw [e, rp_sc (hh d (List.mem_cons_self ..)) h1, rps_sc (fun d hd => hh d (List.mem_cons_of_mem _ hd)) h2]
    rfl
theorem flat_sc : ∀ d : PyData, flatV (sc d) = true
  | .none => rfl
  | .bool _ => rfl
  | .int _ => rfl
  | .str _ => rfl
  | .tuple _ => rfl
  | .list _ => rfl
  | .dict _ => rfl
theorem ev_in {neg : Bool} (ha : Ev W K ta σ H d) (hb : EvS W K tb σ H ds) (h1 : isSc d = true) (h2 : ∀ e ∈ ds, isSc e = true) : Ev W K (tOp (rIn K neg) ta tb) σ H (.bool (if neg then !inV (sc d) (ds.map sc) else inV (sc d) (ds.map sc))) :=
  evp_op ha hb fun x y H jH hx ⟨p, xs, e, hl, hs⟩ Q k => by
    rw [rp_sc h1 hx]
    refine ⟨p, xs, e, hl.elim (fun h => .inl h.1) .inr, flat_sc d, ?_, ?_⟩
    · rw [rps_sc h2 hs]
      simp only [List.all_map, List.all_eq_true, Function.comp]
      intro z _
      exact flat_sc z
    · rw [rps_sc h2 hs]
      exact k _ H (Wx.refl jH) (rp_bl.mpr rfl)
/-! ### tuples -/
theorem ev_catT (ha : Ev W K ta σ H (.tuple ds)) (hb : Ev W K tb σ H (.tuple es)) (hl : ds.length + es.length ≤ 10000000) : Ev W K (tOp (rCatA K) ta tb) σ H (.tuple (ds ++ es)) :=
  evp_op ha hb fun x y H jH hx hy Q k => by
    obtain ⟨a, xs, e, h1, h2⟩ := rp_tup.mp hx
    obtain ⟨b, ys, e', h1', h2'⟩ := rp_tup.mp hy
    have n1 := h2.len
    have n2 := h2'.len
    refine ⟨a, b, xs, ys, e, e', h1, h1', by rw [n1, n2]; exact sz_of hl, fun z => ?_, fun z1 z2 => ?_, fun _ _ p hp => ?_⟩
    · have : ds = [] := by rw [z] at n1; exact List.eq_nil_of_length_eq_zero n1.symm
      rw [this, List.nil_append] at k
      rw [← e']
      exact k _ H (Wx.refl jH) hy
    · have : es = [] := by rw [z2] at n2; exact List.eq_nil_of_length_eq_zero n2.symm
      rw [this, List.append_nil] at k
      rw [← e]
      exact k _ H (Wx.refl jH) hx
    · exact k _ _ (Wx.new jH hp) (rp_tup.mpr ⟨p, _, rfl, SqT.of upd_same, (Wx.new jH hp).rps (h2.app h2')⟩)
/-- xs[lo:hi] of data -/
def cutD (ds : List PyData) (lo hi : Option Int) : List PyData := (ds.drop (HT.sIx ds.length 0 lo)).take (HT.sIx ds.length ds.length hi - HT.sIx ds.length 0 lo)
theorem rps_cut {xs : List V} {lo hi : Option Int} (h : Rps K H ds xs) : Rps K H (cutD ds lo hi) (cutV xs lo hi) := by
  unfold cutD cutV
  rw [h.len]
  exact (h.drop _).take _
theorem eo_none : EvO W tNoPart σ H none := fun H1 x Q k => k H1 (Wx.refl x.2.1)
theorem eo_some {i : Int} (h : Ev W K te σ H (.int i)) : EvO W (tPart te) σ H (some i) := fun H1 x Q k => h H1 x _ fun v H2 x2 hv => ⟨i, rp_int.mp hv, k H2 x2⟩
theorem ev_slT {lo hi : Option Int} {tl th : TO} (h : Ev W K te σ H (.tuple ds)) (h1 : EvO W tl σ H lo) (h2 : EvO W th σ H hi) : Ev W K (tSl (rSlA K) te tl th) σ H (.tuple (cutD ds lo hi)) := fun H1 x Q k =>
  h H1 x _ fun v H2 x2 hv => h1 H2 (x.trans x2) _ fun H3 x3 => h2 H3 ((x.trans x2).trans x3) _ fun H4 x4 => by
    have hv := (x3.trans x4).rp hv
    obtain ⟨a, xs, e, s1, s2⟩ := rp_tup.mp hv
    have n1 := s2.len
    refine ⟨a, xs, e, s1, fun z => ?_, fun _ p hp => ?_⟩
    · have : cutD ds lo hi = ds := by
        unfold cutD
        rw [← n1, z.1, z.2, n1, List.drop_zero, Nat.sub_zero, List.take_length]
      rw [this] at k
      rw [← e]
      exact k _ H4 ((x2.trans x3).trans x4) hv
    · exact k _ _ (((x2.trans x3).trans x4).trans (Wx.new x4.2.1 hp)) (rp_tup.mpr ⟨p, _, rfl, SqT.of upd_same, (Wx.new x4.2.1 hp).rps (rps_cut s2)⟩)
theorem el_slL {lo hi : Option Int} {tl th : TO} (h : EvP te σ H (VP.r W K ds)) (h1 : EvO W tl σ H lo) (h2 : EvO W th σ H hi) : EvL W K (tSl (rSlL K) te tl th) σ H (cutD ds lo hi) := fun H1 x Q k =>
  h H1 x _ fun v H2 x2 hv => h1 H2 (x.trans x2) _ fun H3 x3 => h2 H3 ((x.trans x2).trans x3) _ fun H4 x4 => by
    obtain ⟨a, xs, e, s1, s2⟩ := (VP.r W K ds).st (x3.trans x4) hv
    refine ⟨a, xs, e, s1.1, fun p hp => ?_⟩
    exact k _ _ (((x2.trans x3).trans x4).trans (Wx.new x4.2.1 hp)) ⟨p, _, rfl, upd_same, Wx.nM x4.2.1 hp, (Wx.new x4.2.1 hp).rps (rps_cut s2)⟩
theorem ev_slS {s : Str} {lo hi : Option Int} {tl th : TO} (h : Ev W K te σ H (.str s)) (hl : s.length ≤ 10000000) (h1 : EvO W tl σ H lo) (h2 : EvO W th σ H hi) : Ev W K (tSl rSlS te tl th) σ H (.str (cutS s lo hi)) := fun H1 x Q k =>
  h H1 x _ fun v H2 x2 hv => h1 H2 (x.trans x2) _ fun H3 x3 => h2 H3 ((x.trans x2).trans x3) _ fun H4 x4 => ⟨s, rp_str.mp hv, sz_of hl, k _ H4 ((x2.trans x3).trans x4) (rp_str.mpr rfl)⟩
/-- tuples of whole numbers -/
theorem ev_ltT {ns ms : List Int} (ha : Ev W K ta σ H (.tuple (ns.map .int))) (hb : Ev W K tb σ H (.tuple (ms.map .int))) : Ev W K (tOp (rLtT K) ta tb) σ H (.bool (HT.lexLt ns ms)) :=
  evp_op ha hb fun x y H jH hx hy Q k => by
    obtain ⟨a, xs, e, h1, h2⟩ := rp_tup.mp hx
    obtain ⟨b, ys, e', h1', h2'⟩ := rp_tup.mp hy
    rw [h2.of_ints] at h1
    rw [h2'.of_ints] at h1'
    exact ⟨a, b, ns, ms, e, e', h1, h1', k _ H (Wx.refl jH) (rp_bl.mpr rfl)⟩
end
end Fd
-- Rl
namespace Fd
open PySem PySem.Spec PyProof.Rows L2
/-! ### names of the text -/
/-- the module's name x holds v -/
def Kc (mg : Str → Option Value) (x : Str) (v : V) : Prop := ∃ u, mg x = some u ∧ RelV v u
theorem pe_k {X : Cx} {x : Str} {v : V} {pos : Pos} (h : Kc X.mg x v) (hg : Gl X x := by rfl) (hd : (x == ("__debug__" : Str)) = false := by decide) : PE X (.Name x pos) (tC v) := by
  obtain ⟨u, e, r⟩ := h
  exact pe_glob hg e r hd
/-- a def of the text and its promise -/
def Cd (P : Program) (w : World) (K : PySem.W.Frag) (mg : Str → Option Value) (base : Heap) (CX : CXT) (k : Nat) (x : Str) (sp : Sp) : Prop :=
  ∃ (f : Addr) (fd : FuncData) (ps : List Str), FnOk P w K mg base CX k f fd ps sp ∧ mg x = some (.ref f) ∧ PySem.W.keepIn K (.ref f) = true ∧ Binds K fd ps []
theorem pe_d {X : Cx} {k j : Nat} {x : Str} {sp : Sp} {p pos : Pos} {e : Expr} {es : List Expr} {t : TA} (c : Cd X.prog X.w X.K X.mg X.base CX0 k x sp) (hr : Room j X.A) (hk : k ≤ j) (ha : PA X (e :: es) t) (hg : Gl X x := by rfl)
    (hdb : (x == ("__debug__" : Str)) = false := by decide) (he : starEach (e :: es) X.env = (false, eval e X.env) :: starEach es X.env := by rfl) (hpl : (backTo pos (starEach es X.env)).any (·.1) = false := by rfl) :
    PE X (.Call (.Name x p) (e :: es) [] pos) (tCall sp [] E0 t) := by
  obtain ⟨f, fd, ps, F, hm, kp, b⟩ := c
  exact pe_call F (hr.mono hk) hg hm kp b .nil pass0 ha hdb he hpl
theorem pe_dX {X : Cx} {k j : Nat} {x : Str} {sp : Sp} {W : WX} {p pos : Pos} {e : Expr} {es : List Expr} {t : TA} (c : Cd X.prog X.w X.K X.mg X.base (L2.CX X.prog X.w) k x sp) (hr : Room j X.A) (hk : k ≤ j) (tk : Takes X W) (ha : PA X (e :: es) t) (hg : Gl X x := by rfl)
    (hdb : (x == ("__debug__" : Str)) = false := by decide) (he : starEach (e :: es) X.env = (false, eval e X.env) :: starEach es X.env := by rfl) (hpl : (backTo pos (starEach es X.env)).any (·.1) = false := by rfl) :
    PE X (.Call (.Name x p) (e :: es) [] pos) (tCallS sp (WE W) t) := by
  obtain ⟨f, fd, ps, F, hm, kp, b⟩ := c
  exact pe_callS F (hr.mono hk) hg hm kp b (fun σ => passAt tk σ) ha hdb he hpl
/-- where a def of the text stands -/
def At (K : PySem.W.Frag) (mg : Str → Option Value) (x : Str) (st : Stmt) : Prop := ∃ (f : Addr) (fd : FuncData), mg x = some (.ref f) ∧ Fun K x x st f fd
abbrev BindsOf (x : Str) (st : Stmt) (ps : List Str) : Prop := ∀ (kV doc pm : Value) (an : Option Addr) (cdv ct : Value) (us : List Value), us.length = ps.length → bindArgs (PySem.W.fnOf x x (defArgs st) (defBody st) (defScope st) .none kV doc pm an cdv ct) ⟨us, []⟩ = pure (ps.zip us)
section
variable {P : Program} {w : World} {K : PySem.W.Frag} {mg : Str → Option Value} {base : Heap}
theorem cd_of {x : Str} {st : Stmt} {N ps : List Str} {k : Nat} {sp : Sp} (T : At K mg x st) (S : FnScope N ps (defScope st)) (hb : BindsOf x st ps) (len : ∀ vs H Q E, sp vs H Q E → vs.length = ps.length)
    (hbody : ∀ (f : Addr) (cdv : Value) (A : Around) (outer : List Env) (s : Shared) (H : Hp) (vs : List V) (Q : VK) (E : XK), Room k (A.deeper (envOfC x (defScope st) s.heap.objs.size f cdv)) → sp vs H Q E →
      ∃ t, PSs (cxOf CX0 P w K mg base N x (defScope st) f cdv A outer s H E).nox (defBody st) t ∧ t { nx := fun _ H' => Q .non H', rt := Q } (start N vs) H) : Cd P w K mg base CX0 (k + 1) x sp := by
  obtain ⟨f, fd, hm, F⟩ := T
  exact ⟨f, fd, ps, F.ok S len (hbody f), hm, F.kp, F.binds hb⟩
theorem cd_ofX {x : Str} {st : Stmt} {N ps : List Str} {k : Nat} {sp : Sp} (T : At K mg x st) (S : FnScope N ps (defScope st)) (hb : BindsOf x st ps) (len : ∀ vs H Q E, sp vs H Q E → vs.length = ps.length)
    (hbody : ∀ (f : Addr) (cdv : Value) (A : Around) (outer : List Env) (s : Shared) (H : Hp) (vs : List V) (Q : VK) (E : XK), Room k (A.deeper (envOfC x (defScope st) s.heap.objs.size f cdv)) → sp vs H Q E →
      ∃ t, PSs (cxOf (L2.CX P w) P w K mg base N x (defScope st) f cdv A outer s H E) (defBody st) t ∧ t { nx := fun _ H' => Q .non H', rt := Q } (start N vs) H) : Cd P w K mg base (L2.CX P w) (k + 1) x sp := by
  obtain ⟨f, fd, hm, F⟩ := T
  exact ⟨f, fd, ps, F.okX S len (hbody f), hm, F.kp, F.binds hb⟩
end
/-! ### is True, is False of any plain value -/
theorem RelV.bool_iff {x : V} {v : Value} (r : RelV x v) (b : Bool) : (v == Value.bool b) = decide (x = .bl b) := by
  cases x with
  | bl c =>
    cases (show v = Value.bool c from r)
    cases b <;> cases c <;> rfl
  | non => cases (show v = Value.none from r); rfl
  | int i => obtain ⟨t, q⟩ := (show ∃ t, v = Value.int i t from r); subst q; rfl
  | str i => obtain ⟨t, q⟩ := (show ∃ t, v = Value.str i t from r); subst q; rfl
  | byt i => obtain ⟨t, q⟩ := (show ∃ t, v = Value.bytes i t from r); subst q; rfl
  | flt i => obtain ⟨t, q⟩ := (show ∃ t, v = Value.float i t from r); subst q; rfl
  | ref a => cases (show v = Value.ref a from r); rfl
  | ty n => cases (show v = Value.type n from r); rfl
theorem op_isBlA {X : Cx} : OpR X (compareOp .Is) (fun x y H Q => ∃ b : Bool, y = .bl b ∧ Q (.bl (decide (x = .bl b))) H) := by
  intro pins s σ H x y v u Q I rx ry h
  obtain ⟨b, e, q⟩ := h
  subst e
  cases (show u = Value.bool b from ry)
  have pl : plainIs v (.bool b) = true := by
    cases x with
    | non => cases (show v = Value.none from rx); rfl
    | bl c => cases (show v = Value.bool c from rx); rfl
    | int i => obtain ⟨t, z⟩ := (show ∃ t, v = Value.int i t from rx); subst z; rfl
    | str i => obtain ⟨t, z⟩ := (show ∃ t, v = Value.str i t from rx); subst z; rfl
    | byt i => obtain ⟨t, z⟩ := (show ∃ t, v = Value.bytes i t from rx); subst z; rfl
    | flt i => obtain ⟨t, z⟩ := (show ∃ t, v = Value.float i t from rx); subst z; rfl
    | ref a => cases (show v = Value.ref a from rx); rfl
    | ty n => cases (show v = Value.type n from rx); rfl
  refine wpAny_is_plain pl ?_
  rw [RelV.bool_iff rx b]
  exact ⟨.bl (decide (x = .bl b)), H, I, rfl, q⟩
section
variable {W : Wd} {K : PySem.W.Frag} {σ : L2.St} {H : Hp} {ta tb : TE} {d : PyData}
theorem ev_isBlA {b : Bool} (ha : Ev W K ta σ H d) (hb : Ev W K tb σ H (.bool b)) : Ev W K (tOp (fun x y H Q => ∃ b : Bool, y = .bl b ∧ Q (.bl (decide (x = .bl b))) H) ta tb) σ H (.bool (match d with | .bool c => c == b | _ => false)) :=
  evp_op ha hb fun x y H jH hx hy Q k => ⟨b, rp_bl.mp hy, k _ H (Wx.refl jH) (by
    refine rp_bl.mpr (congrArg V.bl ?_)
    cases d with
    | bool c => rw [rp_bl.mp hx]; cases b <;> cases c <;> rfl
    | none => rw [rp_non.mp hx]; rfl
    | int i => rw [rp_int.mp hx]; rfl
    | str i => rw [rp_str.mp hx]; rfl
    | tuple ds =>
      obtain ⟨a, xs, e, _⟩ := rp_tup.mp hx
      rw [e]; rfl
    | list ds => exact (rp_list hx).elim
    | dict ds => exact (rp_dict hx).elim)⟩
end
/-! ### the order of tuples of whole numbers -/
theorem lexAt_le (ns ms : List Int) : ∀ (k i : Nat), i + k = min ns.length ms.length →
    Ob.lexAt (fun j => decide (ns.getD j 0 = ms.getD j 0)) (fun j => decide (ns.getD j 0 ≤ ms.getD j 0)) (decide (ns.length ≤ ms.length)) i k = !HT.lexLt (ms.drop i) (ns.drop i) := by
  intro k
  induction k with
  | zero =>
    intro i hi
    rw [Ob.lexAt_zero]
    by_cases h : ns.length ≤ ms.length
    · have e : ns.drop i = [] := List.drop_eq_nil_of_le (by omega)
      rw [e, decide_eq_true h]
      cases ms.drop i <;> rfl
    · have e : ms.drop i = [] := List.drop_eq_nil_of_le (by omega)
      have l : i < ns.length := by omega
      rw [e, decide_eq_false h, List.drop_eq_getElem_cons l]
      rfl
  | succ k ih =>
    intro i hi
    have l1 : i < ns.length := by omega
    have l2 : i < ms.length := by omega
    rw [Ob.lexAt_succ, List.drop_eq_getElem_cons l1, List.drop_eq_getElem_cons l2, HT.lexLt_cons, ih (i + 1) (by omega)]
    have g1 : ns.getD i 0 = ns[i] := by simp [l1]
    have g2 : ms.getD i 0 = ms[i] := by simp [l2]
    rw [g1, g2]
    by_cases z : ns[i] = ms[i]
    · rw [if_pos (decide_eq_true z), if_pos z.symm]
    · rw [if_neg (by simp [z]), if_neg (fun q => z q.symm)]
      by_cases y : ns[i] ≤ ms[i]
      · rw [decide_eq_true y, decide_eq_false (by omega)]
        rfl
      · rw [decide_eq_false y, decide_eq_true (by omega)]
        rfl
theorem lexAt_gt (ns ms : List Int) : ∀ (k i : Nat), i + k = min ns.length ms.length →
    Ob.lexAt (fun j => decide (ns.getD j 0 = ms.getD j 0)) (fun j => decide (ms.getD j 0 < ns.getD j 0)) (decide (ns.length > ms.length)) i k = HT.lexLt (ms.drop i) (ns.drop i) := by
  intro k
  induction k with
  | zero =>
    intro i hi
    rw [Ob.lexAt_zero]
    by_cases h : ns.length ≤ ms.length
    · have e : ns.drop i = [] := List.drop_eq_nil_of_le (by omega)
      rw [e, decide_eq_false (by omega)]
      cases ms.drop i <;> rfl
    · have e : ms.drop i = [] := List.drop_eq_nil_of_le (by omega)
      have l : i < ns.length := by omega
      rw [e, decide_eq_true (by omega), List.drop_eq_getElem_cons l]
      rfl
  | succ k ih =>
    intro i hi
    have l1 : i < ns.length := by omega
    have l2 : i < ms.length := by omega
    rw [Ob.lexAt_succ, List.drop_eq_getElem_cons l1, List.drop_eq_getElem_cons l2, HT.lexLt_cons, ih (i + 1) (by omega)]
    have g1 : ns.getD i 0 = ns[i] := by simp [l1]
    have g2 : ms.getD i 0 = ms[i] := by simp [l2]
    rw [g1, g2]
    by_cases z : ns[i] = ms[i]
    · rw [if_pos (decide_eq_true z), if_pos z.symm]
    · rw [if_neg (by simp [z]), if_neg (fun q => z q.symm)]
def rGtT (K : PySem.W.Frag) : R2 := fun x y H Q => ∃ (a b : Addr) (ns ms : List Int), x = .ref a ∧ y = .ref b ∧ SqT K H a (ns.map V.int) ∧ SqT K H b (ms.map V.int) ∧ Q (.bl (HT.lexLt ms ns)) H
theorem op_gtT {X : Cx} (hu : X.A.units < cLine) : OpR X (compareOp .Gt) (rGtT X.K) := by
  intro pins s σ H x y v u Q I rx ry h
  obtain ⟨a, b, ns, ms, ex, ey, ha, hb, q⟩ := h
  subst ex ey
  cases rx
  cases ry
  obtain ⟨its, r1, p1, _⟩ := I.tuple ha
  obtain ⟨its2, r2, p2, _⟩ := I.tuple hb
  have i1 : IntsAre its ns := Vals.ints r1
  have i2 : IntsAre its2 ms := Vals.ints r2
  have s1 : its.toArray.size = ns.length := by rw [List.size_toArray, i1.length]
  have s2 : its2.toArray.size = ms.length := by rw [List.size_toArray, i2.length]
  have g1 : ∀ j (h : j < its.toArray.size), ∃ t, its.toArray[j] = .int (ns.getD j 0) t := fun j h => IntsAre.int_at i1 _ _ (by simp at h; simp [h])
  have g2 : ∀ j (h : j < its2.toArray.size), ∃ t, its2.toArray[j] = .int (ms.getD j 0) t := fun j h => IntsAre.int_at i2 _ _ (by simp at h; simp [h])
  have R := Ob.RcOp.tuples_gt (A := X.A) (s := s) (e := fun j => decide (ns.getD j 0 = ms.getD j 0)) (r := fun j => decide (ms.getD j 0 < ns.getD j 0)) p1 p2 hu (fun j h1 h2 => by
    obtain ⟨t, e1⟩ := g1 j h1
    obtain ⟨t', e2⟩ := g2 j h2
    rw [e1, e2, ← Bool.beq_eq_decide_eq]
    exact SeqAt.EqAt.int_int _ _ _ _) fun j h1 h2 _ => by
    obtain ⟨t, e1⟩ := g1 j h1
    obtain ⟨t', e2⟩ := g2 j h2
    rw [e1, e2]
    exact Ob.RcOp.gt_int _ _ _ _
  rw [s1, s2, lexAt_gt ns ms _ 0 (by omega), List.drop_zero, List.drop_zero] at R
  exact R X.prog X.w X.xe (EP X pins σ Q) ⟨.bl _, H, I, rfl, q⟩
section
variable {W : Wd} {K : PySem.W.Frag} {σ : L2.St} {H : Hp} {ta tb : TE} {ns ms : List Int}
theorem ev_gtT (ha : Ev W K ta σ H (.tuple (ns.map .int))) (hb : Ev W K tb σ H (.tuple (ms.map .int))) : Ev W K (tOp (rGtT K) ta tb) σ H (.bool (HT.lexLt ms ns)) :=
  evp_op ha hb fun x y H jH hx hy Q k => by
    obtain ⟨a, xs, e, h1, h2⟩ := rp_tup.mp hx
    obtain ⟨b, ys, e', h1', h2'⟩ := rp_tup.mp hy
    rw [h2.of_ints] at h1
    rw [h2'.of_ints] at h1'
    exact ⟨a, b, ns, ms, e, e', h1, h1', k _ H (Wx.refl jH) (rp_bl.mpr rfl)⟩
theorem ev_leT (ha : Ev W K ta σ H (.tuple (ns.map .int))) (hb : Ev W K tb σ H (.tuple (ms.map .int))) : Ev W K (tOp (rLeT K) ta tb) σ H (.bool (!HT.lexLt ms ns)) :=
  evp_op ha hb fun x y H jH hx hy Q k => by
    obtain ⟨a, xs, e, h1, h2⟩ := rp_tup.mp hx
    obtain ⟨b, ys, e', h1', h2'⟩ := rp_tup.mp hy
    rw [h2.of_ints] at h1
    rw [h2'.of_ints] at h1'
    refine ⟨a, b, ns, ms, e, e', h1, h1', ?_⟩
    rw [lexAt_le ns ms _ 0 (by omega), List.drop_zero, List.drop_zero]
    exact k _ H (Wx.refl jH) (rp_bl.mpr rfl)
end
/-! ### enumerate(t), t a tuple -/
theorem en_new (t : Addr) (items : Array Value) (n : Nat) (dd : Option Addr) (sl : Array (Option Value)) :
    Meets (Builtin.«enumerate.__new__» ⟨[.type "enumerate", .ref t], []⟩) (fun _ R s => s.heap.get? t = some { cls := .type "tuple", dict := dd, data := .seq items n, slots := sl } ∧
      R (.ok (.ret (.ref (s.heap.push { cls := .type "tuple_iterator", data := .fields #[.ref t, .int 0 0] }).objs.size)))
        { s with heap := (s.heap.push { cls := .type "tuple_iterator", data := .fields #[.ref t, .int 0 0] }).push { cls := .type "enumerate", data := .fields #[.none, .bool false, .ref s.heap.objs.size, rawInt 0, .none, .none] } }) := by
  refine .of_wp fun prog w A R s h => ?_
  obtain ⟨hp, g, d, tk, os⟩ := s
  obtain ⟨ht, h⟩ := h
  have sub := sub_enumerate
  have tt : Heap.IsTuple (Shared.heap ⟨hp, g, d, tk, os⟩) t items := ⟨_, ht, rfl, n, rfl⟩
  wp_walk using wpAny_loadPart' ht
  refine wpAny_stack_any fun st => wpAny_pure ?_
  split
  · rename_i c _ _ _ _ _
    cases (c == Value.type "enumerate") <;>
    · wp_walk using wpAny_loadPart' ht, wpAny_pyIter_tuple tt
      exact ⟨_, rfl, h⟩
  · wp_walk using wpAny_loadPart' ht, wpAny_pyIter_tuple tt
    exact ⟨_, rfl, h⟩
theorem en_call {prog : Program} {w : World} {A : Around} {E : Value → Shared → Prop} {s : Shared} {t : Addr} {items : Array Value} {Q : Value → Shared → Prop} (ht : s.heap.IsTuple t items)
    (h : ∀ h', IsEnum h' (s.heap.objs.size + 1) s.heap.objs.size 0 .none → h'.IsTupleIter s.heap.objs.size t 0 → (∀ b o, s.heap.get? b = some o → h'.get? b = some o) → Q (.ref (s.heap.objs.size + 1)) { s with heap := h' }) :
    wpAny (model prog w) A (call (.type "enumerate") [.ref t]) Q E s := by
  obtain ⟨⟨c, dd, dt, sl⟩, hl, hc, n, hd⟩ := ht
  have hc : c = .type "tuple" := hc
  have hd : dt = .seq items n := hd
  subst hc hd
  refine callType_new F.called_enumerate (by decide) (F.typeCall_enumerate_1 _) (F.newCall_enumerate_1 _) (fun o => F.args_object_init_2 o _) F.entry_enumerate_new (en_new t items n dd sl) ⟨hl, ?_⟩
  generalize hq : s.heap.push { cls := .type "tuple_iterator", data := .fields #[.ref t, .int 0 0] } = h1
  have hz : h1.objs.size = s.heap.objs.size + 1 := by rw [← hq, Heap.size_push]
  have k1 : ∀ b o, s.heap.get? b = some o → h1.get? b = some o := fun b o x => by
    rw [← hq]
    exact Heap.get?_push_of_some _ x
  have i1 : h1.IsTupleIter s.heap.objs.size t 0 := by
    rw [← hq]
    exact ⟨_, Heap.get?_push_size _ rfl, rfl, rfl⟩
  generalize hq2 : h1.push { cls := .type "enumerate", data := .fields #[.none, .bool false, .ref s.heap.objs.size, rawInt 0, .none, .none] } = h2
  have he : IsEnum h2 h1.objs.size s.heap.objs.size 0 .none := by
    rw [← hq2]
    exact Heap.get?_push_size h1 (o := { cls := .type "enumerate", data := .fields #[.none, .bool false, .ref s.heap.objs.size, rawInt 0, .none, .none] }) rfl
  have k2 : ∀ b o, h1.get? b = some o → h2.get? b = some o := fun b o x => by
    rw [← hq2]
    exact Heap.get?_push_of_some _ x
  refine ⟨⟨_, he, rfl⟩, ?_⟩
  show Q (.ref h1.objs.size) _
  rw [hz] at he ⊢
  exact h h2 he (i1.at fun o x => k2 _ o x) fun b o x => k2 b o (k1 b o x)
end Fd
-- Rl2
namespace Fd
open PySem PySem.Spec PyProof.Rows L2
/-- what enumerate over the tuple at a gives -/
def IteT (K : PySem.W.Frag) (a : Addr) : It :=
  ⟨fun i H => ∃ xs x, SqT K H a xs ∧ xs[i]? = some x, fun i H v H' => ∃ T x, v = .ref T ∧ H T = none ∧ H' = upd H T (.tup [.int (i : Nat), x]) ∧ ∀ xs, SqT K H a xs → xs[i]? = some x, fun i H => ∃ xs, SqT K H a xs ∧ xs.length ≤ i⟩
theorem turn_enT {P : Program} {w : World} {K : PySem.W.Frag} {elts : List Expr} {kk : Nat} {tpos : Pos} (a e it : Addr) :
    Turn P w K (.Tuple elts kk tpos) (IteT K a) [e, it] e (fun i h => (∃ old, IsEnum h e it ((i : Nat) : Int) old) ∧ h.IsTupleIter it a i ∧ e ≠ it) where
  mem := List.mem_cons_self ..
  obj := by
    intro i h ⟨⟨old, he⟩, ⟨o, ho, hc, hd⟩, _⟩ b hb
    rcases List.mem_cons.mp hb with z | hb
    · subst z
      exact ⟨_, he, fun v q => nomatch q⟩
    · have z := List.mem_singleton.mp hb
      subst z
      exact ⟨o, ho, fun v q => by rw [hd] at q; cases q⟩
  keep := by
    intro i h h' ⟨⟨old, he⟩, hi, hne⟩ k
    exact ⟨⟨old, k e (by simp) _ he⟩, hi.at fun o q => k it (by simp) o q, hne⟩
  item := by
    intro X hP hw hK hc i pins s σ H E I hf st hg
    subst hP hw hK
    obtain ⟨⟨old, he⟩, hit, hne⟩ := st
    obtain ⟨xs, x, hq, hx⟩ := hg
    obtain ⟨its, rv, p, hz⟩ := I.tuple hq
    have pt : s.heap.IsTuple a its.toArray := p
    have lte : e < s.heap.objs.size := Heap.lt_size he
    have lti : it < s.heap.objs.size := by
      obtain ⟨_, q, _⟩ := hit
      exact Heap.lt_size q
    have ane : a ≠ e := fun z => by
      obtain ⟨o, q, c, _⟩ := pt
      rw [z, he] at q
      cases q
      have c' : Value.type "enumerate" = Value.type "tuple" := c
      exact absurd c' (by decide)
    have ait : a ≠ it := fun z => by
      obtain ⟨o, q, c, _⟩ := pt
      obtain ⟨o2, q2, c2, _⟩ := hit
      rw [z, q2] at q
      cases q
      rw [c2] at c
      exact absurd c (by decide)
    have hil : i < its.toArray.size := by
      rw [List.size_toArray, ← rv.length]
      exact (List.getElem?_eq_some_iff.mp hx).1
    have D := Draws.tuple (prog := X.prog) (w := X.w) (A := X.A.in1) (I.ok.hd hc) it a ait its.toArray
    refine wpAny_pyNext_enum_itemD D he ⟨hit, pt⟩ hil hne (by simp [hne, Ne.symm ane]) fun u h' tk hu ho hst hT hsz hk => ?_
    obtain ⟨hit', _⟩ := hst
    have ru : RelV x u := by
      obtain ⟨u', e1, e2⟩ := rv.get hx
      have e3 : its.toArray[i]? = some u' := by simpa using e1
      rw [hu] at e3
      cases e3
      exact e2
    refine ⟨_, rfl, wpAny_letOwnedTupleGo_enum (s := { s with heap := h', toks := tk + 1 }) ho fun h2 he2 sb => ?_⟩
    have t2 : h2.get? s.heap.objs.size = some { cls := .type "tuple", data := .seq #[.int i tk, u] } := (sb.2 _ (Nat.ne_of_gt lte)).trans hT
    have new : ObjOk X.prog X.w (upd H s.heap.objs.size (.tup [.int (i : Nat), x])) h2 s.heap.objs.size (.tup [.int (i : Nat), x]) :=
      ⟨by show 2 ≤ sizeLine; decide, _, Paired.cons ⟨tk, rfl⟩ (Paired.cons ru Paired.nil), _, t2, rfl, _, rfl⟩
    have I2 : Inv X pins σ (upd H s.heap.objs.size (.tup [.int (i : Nat), x])) { s with heap := h2, toks := tk + 1 } :=
      I.turnedNew (ch := [e, it]) (fun b ob hb q => by
        have b1 : b ≠ e := fun z => hb (by simp [z])
        have b2 : b ≠ it := fun z => hb (by simp [z])
        exact (sb.2 b b1).trans (hk b ob b1 b2 q)) hf (Nat.le_refl _) new
    refine ⟨.ref s.heap.objs.size, _, I2, rfl, ⟨s.heap.objs.size, x, rfl, I.hok.fresh (Nat.le_refl _), rfl, fun ys hy => ?_⟩, ⟨⟨u, ?_⟩, hit'.at fun o q => (sb.2 it (Ne.symm hne)).trans q, hne⟩, fun b hb => ?_⟩
    · rw [I.tuple_inj hy hq]
      exact hx
    · rw [show ((i + 1 : Nat) : Int) = (i : Int) + 1 from by omega]
      exact he2
    · have ltb : b < s.heap.objs.size := by
        rcases List.mem_cons.mp hb with z | z
        · rw [z]; exact lte
        · rw [List.mem_singleton.mp z]; exact lti
      rw [upd_ne (Nat.ne_of_lt ltb)]
      exact (hf b hb).1
  done := by
    intro X hP hw hK hc i pins s σ H E I hf st hg
    subst hP hw hK
    obtain ⟨⟨old, he⟩, hit, hne⟩ := st
    obtain ⟨xs, hq, hx⟩ := hg
    obtain ⟨its, rv, p, hz⟩ := I.tuple hq
    have pt : s.heap.IsTuple a its.toArray := p
    obtain ⟨f0, f1, f2, f3, f4, f5⟩ := hf it (by simp)
    have hl := rv.length
    have ait : a ≠ it := fun z => by
      obtain ⟨o, q, c, _⟩ := pt
      obtain ⟨o2, q2, c2, _⟩ := hit
      rw [z, q2] at q
      cases q
      rw [c2] at c
      exact absurd c (by decide)
    have hh := I.ok.hd hc
    have hT : s.TypeIs (.ref e) "enumerate" := ⟨_, he, rfl⟩
    unfold pyNext
    refine wpAny_bind (wpAny_attempt (wpAny_callSpecial?_slot (name := Str.ofString "__next__") hT F.slot_enumerate_next (wpAny_call_entry F.slot_enumerate_next hT F.entry_enumerate_next ?_ (F.args_enumerate_next_1 _))))
    show wpAny _ _ (field (.ref e) 2 >>= _) _ _ _
    refine wpAny_bind (wpAny_field he rfl (x := .ref it) rfl ?_)
    refine wpAny_bind (wpAny_nextOf_tuple_end hh hit pt (by simp; omega) fun h' x eb hx' => ?_)
    obtain ⟨o, ho, hc2⟩ := hx'
    refine wpAny_bind (wpAny_isInstance (T := "StopIteration") (b := true) ⟨o, ho, hc2⟩ isSubtype_stop ?_)
    exact wpAny_pure ⟨rfl, I.turned (t' := s.toks) (fun b o hb q => eb b o hb q) f0 f1 f3 f4 f5⟩
  self := fun A i s Q E ⟨⟨_, he⟩, _⟩ h => wpAny_pyIter_enum he h
def iEnT (K : PySem.W.Frag) (ta : TA) : TI := fun σ H R => ta σ H fun vs H1 => ∃ a xs, vs = [.ref a] ∧ SqT K H1 a xs ∧ R (IteT K a) H1
theorem pi_enumT {X : Cx} {e : Expr} {ta : TA} {p pos tpos : Pos} {elts : List Expr} {kk : Nat} (hg : Gl X "enumerate") (hm : X.mg "enumerate" = none) (ha : PA X [e] ta) (hs : starEach [e] X.env = [(false, eval e X.env)] := by rfl) :
    PI X (.Tuple elts kk tpos) (.Call (.Name "enumerate" p) [e] [] pos) (iEnT X.K ta) := by
  refine ⟨fun pins s σ H R I h => ?_⟩
  refine Call_ (ld_blt I hg hm boot_enumerate (PyProof.Rows.callWith_type1 (thn (ha.run pos pins s σ H _ I h) fun us s1 ⟨vs, H1, I1, r1, a, xs, ex, hq, q⟩ => ?_) hs rfl))
  subst ex
  cases r1 with
  | cons r rr =>
    cases rr
    cases r
    obtain ⟨its, rv, p', hz⟩ := I1.tuple hq
    refine en_call (show s1.heap.IsTuple a its.toArray from p') fun h' he hit hk => wpAny_pyIter_enum he ?_
    have I2 : Inv X pins σ H1 { s1 with heap := h' } := I1.kept (t' := s1.toks) hk
    refine ⟨s1.heap.objs.size + 1, [s1.heap.objs.size + 1, s1.heap.objs.size], _, IteT X.K a, H1, rfl, I2, turn_enT a (s1.heap.objs.size + 1) s1.heap.objs.size, ⟨⟨.none, he⟩, hit, Nat.succ_ne_self _⟩, fun b hb => ?_, q⟩
    have hle : s1.heap.objs.size ≤ b := by
      rcases List.mem_cons.mp hb with z | z
      · rw [z]; exact Nat.le_succ _
      · rw [List.mem_singleton.mp z]; exact Nat.le_refl _
    exact I1.fpOk hle (I1.hok.fresh hle)
/-- data numbered -/
def numD (ds : List PyData) : List PyData := (List.range ds.length).zipWith (fun i d => .tuple [.int (i : Nat), d]) ds
theorem numD_len (ds : List PyData) : (numD ds).length = ds.length := by unfold numD; rw [List.length_zipWith, List.length_range, Nat.min_self]
theorem src_enT {W : Wd} {K : PySem.W.Frag} {σ : L2.St} {H : Hp} {te : TE} {ds : List PyData} (h : Ev W K te σ H (.tuple ds)) : Src W K (iEnT K (tCons te tNil)) σ H (numD ds) := fun H1 x R k =>
  h H1 x _ fun v H2 x2 hv => by
    obtain ⟨p, xs, e, hl, hs⟩ := rp_tup.mp hv
    refine ⟨p, xs, by rw [e], hl, k _ H2 x2 ?_⟩
    have hn := hs.len
    have hm := numD_len ds
    refine ⟨fun i H hi x => ⟨xs, xs[i]'(by omega), x.keepT.sq hl, by simp⟩, fun H x => ⟨xs, x.keepT.sq hl, by omega⟩, fun i H v H' hi y q => ?_⟩
    obtain ⟨T, b, e1, e2, e3, e4⟩ := q
    subst e3
    refine ⟨Wx.new y.2.1 e2, fun d hd => ?_⟩
    have hi' : i < ds.length := by omega
    unfold numD at hd
    rw [List.getElem?_zipWith, List.getElem?_range hi', List.getElem?_eq_getElem hi'] at hd
    cases hd
    have r1 := yAt (y.rps hs) (e4 xs (y.keepT.sq hl)) _ (List.getElem?_eq_getElem hi')
    exact rp_tup.mpr ⟨T, _, e1, SqT.of upd_same, (Wx.new y.2.1 e2).rps (rps_cons.mpr ⟨_, [b], rfl, rp_int.mpr rfl, Rps.one r1⟩)⟩
end Fd
-- D0
namespace Fd
open PySem PySem.Spec PyProof.Rows L2
/-! rules with the written part told -/
theorem kLen (K : PySem.W.Frag) {X : Cx} (h : X.K = K := by rfl) : CallR X (.builtin "len") (fun xs H Q => ∃ x n, xs = [x] ∧ LenV K x H n ∧ Q (.int n) H) := by subst h; exact call_len
theorem kTupOf (K : PySem.W.Frag) {X : Cx} (h : X.K = K := by rfl) : CallR X (.type "tuple") (fun xs H Q => ∃ p ys, xs = [.ref p] ∧ ((SqL K H p ys ∧ ∀ l, H l = none → Q (.ref l) (upd H l (.tup ys))) ∨ (SqT K H p ys ∧ Q (.ref p) H))) := by subst h; exact call_tuple_of
theorem kLstOf (K : PySem.W.Frag) {X : Cx} (h : X.K = K := by rfl) : CallR X (.type "list") (fun xs H Q => ∃ p ys, xs = [.ref p] ∧ (SqL K H p ys ∨ SqT K H p ys) ∧ ∀ l, H l = none → Q (.ref l) (upd H l (.lst ys))) := by subst h; exact call_list_of
def rJoin (K : PySem.W.Frag) : V → List V → Hp → VK → Prop := fun x xs H Q => ∃ a p, ∃ ys : List Str, x = .str a ∧ xs = [.ref p] ∧ (SqL K H p (ys.map V.str) ∨ SqT K H p (ys.map V.str)) ∧
      (ys.map (·.length)).sum + ys.length * a.length ≤ 16777216 ∧ Q (.str (Txt.join a ys)) H
theorem kJoin (K : PySem.W.Frag) {X : Cx} {o e : Expr} {to te : TE} {apos pos : Pos} (ho : PE X o to) (he : PE X e te) (hK : X.K = K := by rfl) (hs : starEach [e] X.env = [(false, eval e X.env)] := by rfl) (hbase : attributeBase o "join" X.env (eval o X.env) = eval o X.env := by rfl) (hline : (apos.endLine == pos.line) = true := by rfl) :
    PE X (.Call (.Attribute o "join" apos) [e] [] pos) (tM1 (rJoin K) to te) := by
  subst hK
  exact pe_join ho he hs hbase hline
theorem ixT (K : PySem.W.Frag) {X : Cx} (h : X.K = K := by rfl) : IxR X (rIxT K) := by subst h; exact ix_tup
theorem ixL (K : PySem.W.Frag) {X : Cx} (h : X.K = K := by rfl) : IxR X (rIx K) := by subst h; exact ix_seq
theorem pi_listK (K : PySem.W.Frag) {X : Cx} {l : Expr} {tl : TE} {tg : Expr} (hl : PE X l tl) (h : X.K = K := by rfl) : PI X tg l (iList K tl) := by subst h; exact pi_list hl
theorem pi_tupK (K : PySem.W.Frag) {X : Cx} {l : Expr} {tl : TE} {tg : Expr} (hl : PE X l tl) (h : X.K = K := by rfl) : PI X tg l (iTup K tl) := by subst h; exact pi_tup hl
theorem kIsi (K : PySem.W.Frag) {X : Cx} (h : X.K = K := by rfl) : CallR X (.builtin "isinstance") (rIsi K) := by subst h; exact call_isi
theorem kIn (K : PySem.W.Frag) {X : Cx} (h : X.K = K := by rfl) : OpR X (compareOp .In) (rIn K false) := by subst h; exact op_in_seq
theorem kNotIn (K : PySem.W.Frag) {X : Cx} (h : X.K = K := by rfl) : OpR X (compareOp .NotIn) (rIn K true) := by subst h; exact op_notIn_seq
theorem kSl (K : PySem.W.Frag) {X : Cx} (h : X.K = K := by rfl) : SlR X (rSlA K) := by subst h; exact sl_tupA
section
variable {K : PySem.W.Frag} {H : Hp} {a b c d : PyData} {vs : List V}
theorem rps1 (h : Rps K H [a] vs) : ∃ x, vs = [x] ∧ Rp K H a x := by
  obtain ⟨x, r, e, h1, h2⟩ := rps_cons.mp h
  rw [rps_nil.mp h2] at e
  exact ⟨x, e, h1⟩
theorem rps2 (h : Rps K H [a, b] vs) : ∃ x y, vs = [x, y] ∧ Rp K H a x ∧ Rp K H b y := by
  obtain ⟨x, r, e, h1, h2⟩ := rps_cons.mp h
  obtain ⟨y, e2, h3⟩ := rps1 h2
  rw [e2] at e
  exact ⟨x, y, e, h1, h3⟩
theorem rps3 (h : Rps K H [a, b, c] vs) : ∃ x y z, vs = [x, y, z] ∧ Rp K H a x ∧ Rp K H b y ∧ Rp K H c z := by
  obtain ⟨x, r, e, h1, h2⟩ := rps_cons.mp h
  obtain ⟨y, z, e2, h3, h4⟩ := rps2 h2
  rw [e2] at e
  exact ⟨x, y, z, e, h1, h3, h4⟩
theorem rps4 (h : Rps K H [a, b, c, d] vs) : ∃ x y z u, vs = [x, y, z, u] ∧ Rp K H a x ∧ Rp K H b y ∧ Rp K H c z ∧ Rp K H d u := by
  obtain ⟨x, r, e, h1, h2⟩ := rps_cons.mp h
  obtain ⟨y, z, u, e2, h3, h4, h5⟩ := rps3 h2
  rw [e2] at e
  exact ⟨x, y, z, u, e, h1, h3, h4, h5⟩
end
/-- the world in which what stood at H0 stands: a list one makes is no list of old -/
def Wn (H0 : Hp) : Wd := ⟨fun b => ∃ o, H0 b = some o ∧ Loc o = true, fun H => ∀ b o, H0 b = some o → H b = some o, fun H H' j h b o e => h b o (j b o e) fun l => ⟨o, e, l⟩, fun H b j ⟨o, e, l⟩ => ⟨o, j b o e, ⟨fun xs z => (by rw [z] at l; cases l), fun ob u z => (by rw [z] at l; cases l)⟩⟩⟩
abbrev xn {H : Hp} : Wx (Wn H) H H := Wx.refl (W := Wn H) (fun _ _ h => h)
/-- a pure def hands back -/
theorem ret0 {K : PySem.W.Frag} {H0 H : Hp} {Q : VK} {r d : PyData} {te : TE} {σ : L2.St} {D : Ends} (kk : ∀ v H', Same H0 H' → Rp K H' r v → Q v H') (x0 : Wx W0 H0 H) (h : Ev W0 K te σ H d) (e : d = r) (hD : D.rt = Q := by rfl) : tRet te D σ H := by
  subst e
  refine st_ret trivial h fun v H' x hv => ?_
  rw [hD]
  exact kk v H' (fun b o q => (x0.trans x).2.2 b o q (fun z => z)) hv
/-- the promise of a def of plain data that makes a new list -/
def SpL (K : PySem.W.Frag) (f : List PyData → List PyData → Prop) : Sp := fun vs H Q _ => ∃ ds es, Rps K H ds vs ∧ f ds es ∧ ∀ p H' xs, Same H H' → H p = none → H' p = some (.lst xs) → Rps K H' es xs → Q (.ref p) H'
theorem SpL.len {K : PySem.W.Frag} {f : List PyData → List PyData → Prop} {n : Nat} (h : ∀ ds r, f ds r → ds.length = n) : ∀ vs H Q E, SpL K f vs H Q E → vs.length = n := fun vs H Q E ⟨ds, r, h1, h2, _⟩ => by
  rw [h1.len, h ds r h2]
theorem el_call {W : Wd} {K : PySem.W.Frag} {σ : L2.St} {H : Hp} {ds es : List PyData} {f : List PyData → List PyData → Prop} {E : XK} {tr : TA} (h : EvA W K tr σ H ds) (hf : f ds es) : EvL W K (tCall (SpL K f) [] E tr) σ H es := fun H1 x Q k =>
  h H1 x _ fun vs H2 x2 hs => ⟨ds, es, by rw [List.append_nil]; exact hs, hf, fun p H3 xs s hn hp r => k _ H3 (x2.trans (Wx.same x2.2.1 s)) ⟨p, xs, rfl, hp, Wx.nM x2.2.1 hn, r⟩⟩
theorem retL {K : PySem.W.Frag} {H0 H : Hp} {Q : VK} {es : List PyData} {te : TE} {σ : L2.St} {D : Ends} (kk : ∀ p H' xs, Same H0 H' → H0 p = none → H' p = some (.lst xs) → Rps K H' es xs → Q (.ref p) H') (x0 : Wx (Wn H0) H0 H) (h : EvL (Wn H0) K te σ H es) (hD : D.rt = Q := by rfl) : tRet te D σ H := by
  refine h H (Wx.refl x0.2.1) _ fun v H' x ⟨p, xs, e, hp, hn, r⟩ => ?_
  rw [hD, e]
  have j : ∀ b o, H0 b = some o → H' b = some o := x.2.1
  refine kk p H' xs j ?_ hp r
  cases e0 : H0 p with
  | none => rfl
  | some o =>
    have := j p o e0
    rw [hp] at this
    cases this
    exact (hn ⟨_, e0, rfl⟩).elim
abbrev x0 {H : Hp} : Wx W0 H H := Wx.refl trivial
theorem tupCases (d : PyData) : (∃ ds, d = .tuple ds) ∨ isTup d = false := by
  cases d with
  | tuple ds => exact .inl ⟨ds, rfl⟩
  | _ => exact .inr rfl
section
variable {W : Wd} {K : PySem.W.Frag} {σ : L2.St} {H : Hp} {te : TE} {tc : TT} {p : VP W} {D : Ends} {t1 t2 u : TS} {ds : List PyData}
theorem ev_neg {i : Int} (h : Ev W K te σ H (.int i)) : Ev W K (tUn (rU fun i => .int (-i)) te) σ H (.int (-i)) := evp_un h fun x H jH hx Q k => ⟨i, rp_int.mp hx, k _ H (Wx.refl jH) (rp_int.mpr rfl)⟩
theorem if_then {b : Bool} (j : W.J H) (h : EvT W tc σ H b) (h1 : b = true → ∀ H', Wx W H H' → t1 { D with nx := u D } σ H') (h2 : b = false → ∀ H', Wx W H H' → u D σ H') : tSeq (tIfS tc t1 tNext) u D σ H := st_if (D := { D with nx := u D }) j h h1 h2
theorem ifelse_then {b : Bool} (j : W.J H) (h : EvT W tc σ H b) (h1 : b = true → ∀ H', Wx W H H' → t1 { D with nx := u D } σ H') (h2 : b = false → ∀ H', Wx W H H' → t2 { D with nx := u D } σ H') : tSeq (tIfS tc t1 t2) u D σ H := st_if (D := { D with nx := u D }) j h h1 h2
theorem set_then {i : Nat} (j : W.J H) (h : EvP te σ H p) (k : ∀ v H', Wx W H H' → p.P H' v → u D (σ.set i (some v)) H') : tSeq (tAsg te (gName i)) u D σ H := h.run j k
theorem drop_then (j : W.J H) (h : EvP te σ H p) (k : ∀ v H', Wx W H H' → p.P H' v → u D σ H') : tSeq (tDrop te) u D σ H := h.run j k
theorem set_last {i : Nat} (j : W.J H) (h : EvP te σ H p) (k : ∀ v H', Wx W H H' → p.P H' v → D.nx (σ.set i (some v)) H') : tAsg te (gName i) D σ H := h.run j k
/-- a, b = x, y -/
theorem par_then {i j : Nat} {ta tb : TE} {q : VP W} (jH : W.J H) (h1 : EvP ta σ H p) (h2 : EvP tb σ H q) (k : ∀ v u' H', Wx W H H' → p.P H' v → q.P H' u' → u D ((σ.set i (some v)).set j (some u')) H') : tSeq (tPar i j (tCons ta (tCons tb tNil))) u D σ H :=
  h1.run jH fun v H1 x1 hv => (h2.mono x1).run x1.2.1 fun v2 H2 x2 hv2 => ⟨v, v2, rfl, k v v2 H2 (x1.trans x2) (p.st x2 hv) hv2⟩
/-- a for over data -/
theorem st_for {wi : TI} {g : TG} {tb : TS} (j : W.J H) (hs : Src W K wi σ H ds) (Inv : Nat → L2.St → Hp → Prop) (h0 : ∀ H1, Wx W H H1 → Inv 0 σ H1)
    (hst : ∀ i d σ1 H1 H2 x (N : L2.St → Hp → Prop), ds[i]? = some d → Wx W H H1 → Inv i σ1 H1 → Wx W H1 H2 → Rp K H2 d x → (∀ σ' H', Wx W H2 H' → Inv (i + 1) σ' H' → N σ' H') →
      g x σ1 H2 fun σ2 H3 => tb { D with nx := N, ct := N, bk := D.nx } σ2 H3)
    (hd : ∀ σ' H', Wx W H H' → Inv ds.length σ' H' → D.nx σ' H') : tFor wi g tb D σ H :=
  hs H (Wx.refl j) _ fun J H1 x1 G =>
    for_it (g := g) (tb := tb) (D := D) (σ := σ) (H := H1) G.walk (fun i σ' H' => Wx W H1 H' ∧ Inv i σ' H') ⟨Wx.refl x1.2.1, h0 H1 x1⟩ (fun i σ' H' _ h => h.1)
      (fun i x σ' H' H2 hi ⟨y1, hI⟩ ⟨y2, hx⟩ => hst i ds[i] σ' H' H2 x _ (List.getElem?_eq_getElem hi) (x1.trans y1) hI y2 (hx _ (List.getElem?_eq_getElem hi)) fun σ2 H3 y3 h3 => ⟨(y1.trans y2).trans y3, h3⟩)
      fun σ' H' ⟨y1, hI⟩ => hd σ' H' (x1.trans y1) hI
theorem for_then {wi : TI} {g : TG} {tb : TS} (j : W.J H) (hs : Src W K wi σ H ds) (Inv : Nat → L2.St → Hp → Prop) (h0 : ∀ H1, Wx W H H1 → Inv 0 σ H1)
    (hst : ∀ i d σ1 H1 H2 x (N : L2.St → Hp → Prop), ds[i]? = some d → Wx W H H1 → Inv i σ1 H1 → Wx W H1 H2 → Rp K H2 d x → (∀ σ' H', Wx W H2 H' → Inv (i + 1) σ' H' → N σ' H') →
      g x σ1 H2 fun σ2 H3 => tb { nx := N, ct := N, bk := u D, rt := D.rt } σ2 H3)
    (hd : ∀ σ' H', Wx W H H' → Inv ds.length σ' H' → u D σ' H') : tSeq (tFor wi g tb) u D σ H := st_for (D := { D with nx := u D }) j hs Inv h0 hst hd
/-- the target a pair of names -/
theorem g_pair {i j : Nat} {d1 d2 : PyData} {x : V} {Q : L2.St → Hp → Prop} (hx : Rp K H (.tuple [d1, d2]) x) (k : ∀ a b, Rp K H d1 a → Rp K H d2 b → Q ((σ.set i (some a)).set j (some b)) H) : gTup K 2 (gCons (gName i) (gCons (gName j) gNil)) x σ H Q := by
  obtain ⟨a, xs, ex, hs, hr⟩ := rp_tup.mp hx
  obtain ⟨v, u, e, h1, h2⟩ := rps2 hr
  subst e
  exact ⟨a, [v, u], ex, hs, rfl, v, [u], rfl, u, [], rfl, rfl, k v u h1 h2⟩
theorem asg_then {g : TG} (jH : W.J H) (h : EvP te σ H p) (k : ∀ v H', Wx W H H' → p.P H' v → g v σ H' (fun σ' H2 => u D σ' H2)) : tSeq (tAsg te g) u D σ H := h.run jH k
theorem g_three {i j l : Nat} {d1 d2 d3 : PyData} {x : V} {Q : L2.St → Hp → Prop} (hx : Rp K H (.tuple [d1, d2, d3]) x) (k : ∀ a b c, Rp K H d1 a → Rp K H d2 b → Rp K H d3 c → Q (((σ.set i (some a)).set j (some b)).set l (some c)) H) : gTup K 3 (gCons (gName i) (gCons (gName j) (gCons (gName l) gNil))) x σ H Q := by
  obtain ⟨a, xs, ex, hs, hr⟩ := rp_tup.mp hx
  obtain ⟨v, u, z, e, h1, h2, h3⟩ := rps3 hr
  subst e
  exact ⟨a, [v, u, z], ex, hs, rfl, v, [u, z], rfl, u, [z], rfl, z, [], rfl, rfl, k v u z h1 h2 h3⟩
/-! the same in the world in which nothing is written -/
theorem if0 {b : Bool} (h : EvT W0 tc σ H b) (h1 : b = true → ∀ H', Wx W0 H H' → t1 { D with nx := u D } σ H') (h2 : b = false → ∀ H', Wx W0 H H' → u D σ H') : tSeq (tIfS tc t1 tNext) u D σ H := if_then (W := W0) trivial h h1 h2
theorem set0 (K : PySem.W.Frag) {i : Nat} {d : PyData} (h : Ev W0 K te σ H d) (k : ∀ v H', Wx W0 H H' → Rp K H' d v → u D (σ.set i (some v)) H') : tSeq (tAsg te (gName i)) u D σ H := set_then (W := W0) (p := VP.d W0 K d) trivial h k
theorem setl0 (K : PySem.W.Frag) {i : Nat} {d : PyData} (h : Ev W0 K te σ H d) (k : ∀ v H', Wx W0 H H' → Rp K H' d v → D.nx (σ.set i (some v)) H') : tAsg te (gName i) D σ H := set_last (W := W0) (p := VP.d W0 K d) trivial h k
end
end Fd
-- Tx
namespace Fd
open PySem PySem.Spec PyProof.Rows L2
def top (i : Nat) : Stmt := PySem.Challenge.pw_bornandshut_k88_papers_as_lines.main.body.getD i (.Pass ⟨0, 0, 0, 0⟩)
abbrev s_whole : Stmt := top 7
abbrev N_whole : List Str := ["thing", "low", "high"]
theorem sc_whole : FnScope N_whole ["thing", "low", "high"] (defScope s_whole) := ⟨rfl, rfl, rfl, by decide +kernel, rfl, by decide +kernel, by decide +kernel⟩
abbrev s_piece_wrong : Stmt := top 11
abbrev N_piece_wrong : List Str := ["thing", "last", "index", "corner"]
theorem sc_piece_wrong : FnScope N_piece_wrong ["thing"] (defScope s_piece_wrong) := ⟨rfl, rfl, rfl, by decide +kernel, rfl, by decide +kernel, by decide +kernel⟩
abbrev s_is_piece : Stmt := top 12
abbrev N_is_piece : List Str := ["thing"]
theorem sc_is_piece : FnScope N_is_piece ["thing"] (defScope s_is_piece) := ⟨rfl, rfl, rfl, by decide +kernel, rfl, by decide +kernel, by decide +kernel⟩
abbrev s_is_row : Stmt := top 15
abbrev N_is_row : List Str := ["p", "thing"]
theorem sc_is_row : FnScope N_is_row ["p", "thing"] (defScope s_is_row) := ⟨rfl, rfl, rfl, by decide +kernel, rfl, by decide +kernel, by decide +kernel⟩
abbrev s_row_wrong : Stmt := top 16
abbrev N_row_wrong : List Str := ["p", "rows", "last", "index", "row"]
theorem sc_row_wrong : FnScope N_row_wrong ["p", "rows"] (defScope s_row_wrong) := ⟨rfl, rfl, rfl, by decide +kernel, rfl, by decide +kernel, by decide +kernel⟩
abbrev s_is_chain : Stmt := top 17
abbrev N_is_chain : List Str := ["p", "thing"]
theorem sc_is_chain : FnScope N_is_chain ["p", "thing"] (defScope s_is_chain) := ⟨rfl, rfl, rfl, by decide +kernel, rfl, by decide +kernel, by decide +kernel⟩
abbrev s_lines_of : Stmt := top 23
abbrev N_lines_of : List Str := ["text"]
theorem sc_lines_of : FnScope N_lines_of ["text"] (defScope s_lines_of) := ⟨rfl, rfl, rfl, by decide +kernel, rfl, by decide +kernel, by decide +kernel⟩
abbrev s_words_of : Stmt := top 24
abbrev N_words_of : List Str := ["line"]
theorem sc_words_of : FnScope N_words_of ["line"] (defScope s_words_of) := ⟨rfl, rfl, rfl, by decide +kernel, rfl, by decide +kernel, by decide +kernel⟩
abbrev s_number_of : Stmt := top 25
abbrev N_number_of : List Str := ["word", "sign"]
theorem sc_number_of : FnScope N_number_of ["word"] (defScope s_number_of) := ⟨rfl, rfl, rfl, by decide +kernel, rfl, by decide +kernel, by decide +kernel⟩
abbrev s_list_of : Stmt := top 26
abbrev N_list_of : List Str := ["word", "found", "part", "one", "other"]
theorem sc_list_of : FnScope N_list_of ["word"] (defScope s_list_of) := ⟨rfl, rfl, rfl, by decide +kernel, rfl, by decide +kernel, by decide +kernel⟩
abbrev s_piece_of : Stmt := top 27
abbrev N_piece_of : List Str := ["word", "found"]
theorem sc_piece_of : FnScope N_piece_of ["word"] (defScope s_piece_of) := ⟨rfl, rfl, rfl, by decide +kernel, rfl, by decide +kernel, by decide +kernel⟩
abbrev s_fail : Stmt := top 28
abbrev N_fail : List Str := ["line", "word"]
theorem sc_fail : FnScope N_fail ["line", "word"] (defScope s_fail) := ⟨rfl, rfl, rfl, by decide +kernel, rfl, by decide +kernel, by decide +kernel⟩
abbrev s_list_word : Stmt := top 29
abbrev N_list_word : List Str := ["numbers", "number"]
theorem sc_list_word : FnScope N_list_word ["numbers"] (defScope s_list_word) := ⟨rfl, rfl, rfl, by decide +kernel, rfl, by decide +kernel, by decide +kernel⟩
abbrev s_text_of : Stmt := top 30
abbrev N_text_of : List Str := ["lines", "part", "line"]
theorem sc_text_of : FnScope N_text_of ["lines"] (defScope s_text_of) := ⟨rfl, rfl, rfl, by decide +kernel, rfl, by decide +kernel, by decide +kernel⟩
abbrev s_line_at : Stmt := top 32
abbrev N_line_at : List Str := ["lines", "at"]
theorem sc_line_at : FnScope N_line_at ["lines", "at"] (defScope s_line_at) := ⟨rfl, rfl, rfl, by decide +kernel, rfl, by decide +kernel, by decide +kernel⟩
abbrev s_want_end : Stmt := top 33
abbrev N_want_end : List Str := ["lines", "many"]
theorem sc_want_end : FnScope N_want_end ["lines", "many"] (defScope s_want_end) := ⟨rfl, rfl, rfl, by decide +kernel, rfl, by decide +kernel, by decide +kernel⟩
abbrev s_read_only : Stmt := top 34
abbrev N_read_only : List Str := ["text", "take_one", "lines", "line", "found"]
theorem sc_read_only : FnScope N_read_only ["text", "take_one"] (defScope s_read_only) := ⟨rfl, rfl, rfl, by decide +kernel, rfl, by decide +kernel, by decide +kernel⟩
abbrev s_row_word : Stmt := top 36
abbrev N_row_word : List Str := ["row"]
theorem sc_row_word : FnScope N_row_word ["row"] (defScope s_row_word) := ⟨rfl, rfl, rfl, by decide +kernel, rfl, by decide +kernel, by decide +kernel⟩
abbrev s_row_of : Stmt := top 37
abbrev N_row_of : List Str := ["word", "p", "first", "sign", "rest", "number", "piece"]
theorem sc_row_of : FnScope N_row_of ["word", "p"] (defScope s_row_of) := ⟨rfl, rfl, rfl, by decide +kernel, rfl, by decide +kernel, by decide +kernel⟩
abbrev s_rows_in : Stmt := top 38
abbrev N_rows_in : List Str := ["line", "p", "found", "row"]
theorem sc_rows_in : FnScope N_rows_in ["line", "p"] (defScope s_rows_in) := ⟨rfl, rfl, rfl, by decide +kernel, rfl, by decide +kernel, by decide +kernel⟩
abbrev s_is_number : Stmt := top 47
abbrev N_is_number : List Str := ["thing"]
theorem sc_is_number : FnScope N_is_number ["thing"] (defScope s_is_number) := ⟨rfl, rfl, rfl, by decide +kernel, rfl, by decide +kernel, by decide +kernel⟩
abbrev s_are_rising : Stmt := top 48
abbrev N_are_rising : List Str := ["numbers", "one", "other"]
theorem sc_are_rising : FnScope N_are_rising ["numbers"] (defScope s_are_rising) := ⟨rfl, rfl, rfl, by decide +kernel, rfl, by decide +kernel, by decide +kernel⟩
abbrev s_is_crowd : Stmt := top 49
abbrev N_is_crowd : List Str := ["thing", "index"]
theorem sc_is_crowd : FnScope N_is_crowd ["thing"] (defScope s_is_crowd) := ⟨rfl, rfl, rfl, by decide +kernel, rfl, by decide +kernel, by decide +kernel⟩
abbrev s_is_pair : Stmt := top 50
abbrev N_is_pair : List Str := ["thing"]
theorem sc_is_pair : FnScope N_is_pair ["thing"] (defScope s_is_pair) := ⟨rfl, rfl, rfl, by decide +kernel, rfl, by decide +kernel, by decide +kernel⟩
abbrev s_are_pairs : Stmt := top 51
abbrev N_are_pairs : List Str := ["things", "thing"]
theorem sc_are_pairs : FnScope N_are_pairs ["things"] (defScope s_are_pairs) := ⟨rfl, rfl, rfl, by decide +kernel, rfl, by decide +kernel, by decide +kernel⟩
abbrev s_is_set : Stmt := top 52
abbrev N_is_set : List Str := ["thing", "number"]
theorem sc_is_set : FnScope N_is_set ["thing"] (defScope s_is_set) := ⟨rfl, rfl, rfl, by decide +kernel, rfl, by decide +kernel, by decide +kernel⟩
abbrev s_is_paper : Stmt := top 53
abbrev N_is_paper : List Str := ["thing", "one"]
theorem sc_is_paper : FnScope N_is_paper ["thing"] (defScope s_is_paper) := ⟨rfl, rfl, rfl, by decide +kernel, rfl, by decide +kernel, by decide +kernel⟩
abbrev s_part_word : Stmt := top 54
abbrev N_part_word : List Str := ["word", "part"]
theorem sc_part_word : FnScope N_part_word ["word", "part"] (defScope s_part_word) := ⟨rfl, rfl, rfl, by decide +kernel, rfl, by decide +kernel, by decide +kernel⟩
abbrev s_paper_text : Stmt := top 55
abbrev N_paper_text : List Str := ["paper", "word", "part"]
theorem sc_paper_text : FnScope N_paper_text ["paper"] (defScope s_paper_text) := ⟨rfl, rfl, rfl, by decide +kernel, rfl, by decide +kernel, by decide +kernel⟩
abbrev s_pair_of : Stmt := top 56
abbrev N_pair_of : List Str := ["word", "first", "sign", "rest", "pair"]
theorem sc_pair_of : FnScope N_pair_of ["word"] (defScope s_pair_of) := ⟨rfl, rfl, rfl, by decide +kernel, rfl, by decide +kernel, by decide +kernel⟩
abbrev s_crowd_in_line : Stmt := top 57
abbrev N_crowd_in_line : List Str := ["line", "side", "indices"]
theorem sc_crowd_in_line : FnScope N_crowd_in_line ["line"] (defScope s_crowd_in_line) := ⟨rfl, rfl, rfl, by decide +kernel, rfl, by decide +kernel, by decide +kernel⟩
abbrev s_match_in : Stmt := top 58
abbrev N_match_in : List Str := ["line", "found", "pair"]
theorem sc_match_in : FnScope N_match_in ["line"] (defScope s_match_in) := ⟨rfl, rfl, rfl, by decide +kernel, rfl, by decide +kernel, by decide +kernel⟩
abbrev s_sets_in : Stmt := top 59
abbrev N_sets_in : List Str := ["line", "found", "one"]
theorem sc_sets_in : FnScope N_sets_in ["line"] (defScope s_sets_in) := ⟨rfl, rfl, rfl, by decide +kernel, rfl, by decide +kernel, by decide +kernel⟩
abbrev s_indices_in : Stmt := top 60
abbrev N_indices_in : List Str := ["line", "found"]
theorem sc_indices_in : FnScope N_indices_in ["line"] (defScope s_indices_in) := ⟨rfl, rfl, rfl, by decide +kernel, rfl, by decide +kernel, by decide +kernel⟩
abbrev s_paper_in : Stmt := top 61
abbrev N_paper_in : List Str := ["line", "word"]
theorem sc_paper_in : FnScope N_paper_in ["line"] (defScope s_paper_in) := ⟨rfl, rfl, rfl, by decide +kernel, rfl, by decide +kernel, by decide +kernel⟩
abbrev s_read_paper : Stmt := top 62
abbrev N_read_paper : List Str := ["text"]
theorem sc_read_paper : FnScope N_read_paper ["text"] (defScope s_read_paper) := ⟨rfl, rfl, rfl, by decide +kernel, rfl, by decide +kernel, by decide +kernel⟩
abbrev s__law_is_whole : Stmt := top 64
abbrev N__law_is_whole : List Str := ["thing"]
theorem sc__law_is_whole : FnScope N__law_is_whole ["thing"] (defScope s__law_is_whole) := ⟨rfl, rfl, rfl, by decide +kernel, rfl, by decide +kernel, by decide +kernel⟩
abbrev s__law_like : Stmt := top 65
abbrev N__law_like : List Str := ["told", "owed", "key", "at"]
theorem sc__law_like : FnScope N__law_like ["told", "owed"] (defScope s__law_like) := ⟨rfl, rfl, rfl, by decide +kernel, rfl, by decide +kernel, by decide +kernel⟩
abbrev s__law_pool : Stmt := top 66
abbrev N__law_pool : List Str := ["script", "k", "cell", "big", "stirred"]
theorem sc__law_pool : FnScope N__law_pool ["script", "k"] (defScope s__law_pool) := ⟨rfl, rfl, rfl, by decide +kernel, rfl, by decide +kernel, by decide +kernel⟩
abbrev s__law_take : Stmt := top 67
abbrev N__law_take : List Str := ["jar", "top", "drawn"]
theorem sc__law_take : FnScope N__law_take ["jar", "top"] (defScope s__law_take) := ⟨rfl, rfl, rfl, by decide +kernel, rfl, by decide +kernel, by decide +kernel⟩
abbrev s__law_one : Stmt := top 68
abbrev N__law_one : List Str := ["jar", "things"]
theorem sc__law_one : FnScope N__law_one ["jar", "things"] (defScope s__law_one) := ⟨rfl, rfl, rfl, by decide +kernel, rfl, by decide +kernel, by decide +kernel⟩
abbrev s__law_mixed : Stmt := top 69
abbrev N__law_mixed : List Str := ["jar", "things", "left_over", "found", "place"]
theorem sc__law_mixed : FnScope N__law_mixed ["jar", "things"] (defScope s__law_mixed) := ⟨rfl, rfl, rfl, by decide +kernel, rfl, by decide +kernel, by decide +kernel⟩
abbrev s__law_bent : Stmt := top 70
abbrev N__law_bent : List Str := ["jar", "thing", "way", "at", "part"]
theorem sc__law_bent : FnScope N__law_bent ["jar", "thing"] (defScope s__law_bent) := ⟨rfl, rfl, rfl, by decide +kernel, rfl, by decide +kernel, by decide +kernel⟩
abbrev s__law_tx_number : Stmt := top 71
abbrev N__law_tx_number : List Str := ["word", "sign"]
theorem sc__law_tx_number : FnScope N__law_tx_number ["word"] (defScope s__law_tx_number) := ⟨rfl, rfl, rfl, by decide +kernel, rfl, by decide +kernel, by decide +kernel⟩
abbrev s__law_tx_list : Stmt := top 72
abbrev N__law_tx_list : List Str := ["word", "found", "part", "at"]
theorem sc__law_tx_list : FnScope N__law_tx_list ["word"] (defScope s__law_tx_list) := ⟨rfl, rfl, rfl, by decide +kernel, rfl, by decide +kernel, by decide +kernel⟩
abbrev s__law_tx_piece : Stmt := top 73
abbrev N__law_tx_piece : List Str := ["word", "found"]
theorem sc__law_tx_piece : FnScope N__law_tx_piece ["word"] (defScope s__law_tx_piece) := ⟨rfl, rfl, rfl, by decide +kernel, rfl, by decide +kernel, by decide +kernel⟩
abbrev s__law_tx_within : Stmt := top 74
abbrev N__law_tx_within : List Str := ["word", "low", "high", "found"]
theorem sc__law_tx_within : FnScope N__law_tx_within ["word", "low", "high"] (defScope s__law_tx_within) := ⟨rfl, rfl, rfl, by decide +kernel, rfl, by decide +kernel, by decide +kernel⟩
abbrev s__law_tx_wrong : Stmt := top 75
abbrev N__law_tx_wrong : List Str := ["words_now", "told", "at"]
theorem sc__law_tx_wrong : FnScope N__law_tx_wrong ["words_now", "told"] (defScope s__law_tx_wrong) := ⟨rfl, rfl, rfl, by decide +kernel, rfl, by decide +kernel, by decide +kernel⟩
abbrev s__law_tx_told : Stmt := top 76
abbrev N__law_tx_told : List Str := ["words_now", "at", "asked"]
theorem sc__law_tx_told : FnScope N__law_tx_told ["words_now", "at", "asked"] (defScope s__law_tx_told) := ⟨rfl, rfl, rfl, by decide +kernel, rfl, by decide +kernel, by decide +kernel⟩
abbrev s__law_tx_row : Stmt := top 77
abbrev N__law_tx_row : List Str := ["word", "parts"]
theorem sc__law_tx_row : FnScope N__law_tx_row ["word"] (defScope s__law_tx_row) := ⟨rfl, rfl, rfl, by decide +kernel, rfl, by decide +kernel, by decide +kernel⟩
abbrev s__law_tx_rows : Stmt := top 78
abbrev N__law_tx_rows : List Str := ["words_now", "most", "found", "at", "row"]
theorem sc__law_tx_rows : FnScope N__law_tx_rows ["words_now", "most"] (defScope s__law_tx_rows) := ⟨rfl, rfl, rfl, by decide +kernel, rfl, by decide +kernel, by decide +kernel⟩
abbrev s__law_tx_tie : Stmt := top 79
abbrev N__law_tx_tie : List Str := ["word", "parts", "part"]
theorem sc__law_tx_tie : FnScope N__law_tx_tie ["word"] (defScope s__law_tx_tie) := ⟨rfl, rfl, rfl, by decide +kernel, rfl, by decide +kernel, by decide +kernel⟩
abbrev s__law_tx_lot : Stmt := top 80
abbrev N__law_tx_lot : List Str := ["word", "found"]
theorem sc__law_tx_lot : FnScope N__law_tx_lot ["word"] (defScope s__law_tx_lot) := ⟨rfl, rfl, rfl, by decide +kernel, rfl, by decide +kernel, by decide +kernel⟩
abbrev s__law_tx_parts : Stmt := top 81
abbrev N__law_tx_parts : List Str := ["words_now", "most", "asked", "found", "at", "part"]
theorem sc__law_tx_parts : FnScope N__law_tx_parts ["words_now", "most", "asked"] (defScope s__law_tx_parts) := ⟨rfl, rfl, rfl, by decide +kernel, rfl, by decide +kernel, by decide +kernel⟩
abbrev s__law_tx_read_paper : Stmt := top 82
abbrev N__law_tx_read_paper : List Str := ["text", "lines_now", "words_now", "found", "wrong", "told"]
theorem sc__law_tx_read_paper : FnScope N__law_tx_read_paper ["text"] (defScope s__law_tx_read_paper) := ⟨rfl, rfl, rfl, by decide +kernel, rfl, by decide +kernel, by decide +kernel⟩
abbrev s__law_tx_of : Stmt := top 83
abbrev N__law_tx_of : List Str := ["piece", "n"]
theorem sc__law_tx_of : FnScope N__law_tx_of ["piece"] (defScope s__law_tx_of) := ⟨rfl, rfl, rfl, by decide +kernel, rfl, by decide +kernel, by decide +kernel⟩
abbrev s__law_tx_chain : Stmt := top 84
abbrev N__law_tx_chain : List Str := ["name", "chain_now", "piece", "a"]
theorem sc__law_tx_chain : FnScope N__law_tx_chain ["name", "chain_now"] (defScope s__law_tx_chain) := ⟨rfl, rfl, rfl, by decide +kernel, rfl, by decide +kernel, by decide +kernel⟩
abbrev s__law_tx_paper : Stmt := top 85
abbrev N__law_tx_paper : List Str := ["paper", "i", "j", "part"]
theorem sc__law_tx_paper : FnScope N__law_tx_paper ["paper"] (defScope s__law_tx_paper) := ⟨rfl, rfl, rfl, by decide +kernel, rfl, by decide +kernel, by decide +kernel⟩
abbrev s__law_tx_bent : Stmt := top 86
abbrev N__law_tx_bent : List Str := ["jar", "text", "form", "at", "signs", "cut", "parts", "spot", "some", "other"]
theorem sc__law_tx_bent : FnScope N__law_tx_bent ["jar", "text"] (defScope s__law_tx_bent) := ⟨rfl, rfl, rfl, by decide +kernel, rfl, by decide +kernel, by decide +kernel⟩
abbrev s__law_papers_heard : Stmt := top 87
abbrev N__law_papers_heard : List Str := ["asked", "refused_one"]
theorem sc__law_papers_heard : FnScope N__law_papers_heard ["asked"] (defScope s__law_papers_heard) := ⟨rfl, rfl, rfl, by decide +kernel, rfl, by decide +kernel, by decide +kernel⟩
abbrev s__law_is_lot_of : Stmt := top 88
abbrev N__law_is_lot_of : List Str := ["thing", "most", "low", "high", "one", "at"]
theorem sc__law_is_lot_of : FnScope N__law_is_lot_of ["thing", "most", "low", "high"] (defScope s__law_is_lot_of) := ⟨rfl, rfl, rfl, by decide +kernel, rfl, by decide +kernel, by decide +kernel⟩
abbrev s__law_are_rows : Stmt := top 89
abbrev N__law_are_rows : List Str := ["thing", "at", "one"]
theorem sc__law_are_rows : FnScope N__law_are_rows ["thing"] (defScope s__law_are_rows) := ⟨rfl, rfl, rfl, by decide +kernel, rfl, by decide +kernel, by decide +kernel⟩
abbrev s__law_are_ties : Stmt := top 90
abbrev N__law_are_ties : List Str := ["thing", "one", "at"]
theorem sc__law_are_ties : FnScope N__law_are_ties ["thing"] (defScope s__law_are_ties) := ⟨rfl, rfl, rfl, by decide +kernel, rfl, by decide +kernel, by decide +kernel⟩
abbrev s__law_is_great : Stmt := top 91
abbrev N__law_is_great : List Str := ["thing"]
theorem sc__law_is_great : FnScope N__law_is_great ["thing"] (defScope s__law_is_great) := ⟨rfl, rfl, rfl, by decide +kernel, rfl, by decide +kernel, by decide +kernel⟩
abbrev s__law_is_paper_of : Stmt := top 92
abbrev N__law_is_paper_of : List Str := ["thing", "one"]
theorem sc__law_is_paper_of : FnScope N__law_is_paper_of ["thing"] (defScope s__law_is_paper_of) := ⟨rfl, rfl, rfl, by decide +kernel, rfl, by decide +kernel, by decide +kernel⟩
abbrev s__law_great_drawn : Stmt := top 93
abbrev N__law_great_drawn : List Str := ["jar", "great"]
theorem sc__law_great_drawn : FnScope N__law_great_drawn ["jar"] (defScope s__law_great_drawn) := ⟨rfl, rfl, rfl, by decide +kernel, rfl, by decide +kernel, by decide +kernel⟩
abbrev s__law_rising_drawn : Stmt := top 94
abbrev N__law_rising_drawn : List Str := ["jar", "many", "go"]
theorem sc__law_rising_drawn : FnScope N__law_rising_drawn ["jar", "many"] (defScope s__law_rising_drawn) := ⟨rfl, rfl, rfl, by decide +kernel, rfl, by decide +kernel, by decide +kernel⟩
abbrev s__law_paper_drawn : Stmt := top 95
abbrev N__law_paper_drawn : List Str := ["jar", "word", "many", "some", "numbers_now", "go", "piece", "one"]
theorem sc__law_paper_drawn : FnScope N__law_paper_drawn ["jar"] (defScope s__law_paper_drawn) := ⟨rfl, rfl, rfl, by decide +kernel, rfl, by decide +kernel, by decide +kernel⟩
abbrev s__law_text_bent : Stmt := top 96
abbrev N__law_text_bent : List Str := ["jar", "text", "parts", "at", "form", "some", "odd"]
theorem sc__law_text_bent : FnScope N__law_text_bent ["jar", "text"] (defScope s__law_text_bent) := ⟨rfl, rfl, rfl, by decide +kernel, rfl, by decide +kernel, by decide +kernel⟩
abbrev s__law_paper_right : Stmt := top 97
abbrev N__law_paper_right : List Str := ["jar", "paper", "text", "heard_now", "go", "other", "owed"]
theorem sc__law_paper_right : FnScope N__law_paper_right ["jar", "paper"] (defScope s__law_paper_right) := ⟨rfl, rfl, rfl, by decide +kernel, rfl, by decide +kernel, by decide +kernel⟩
abbrev s__law_most_of : Stmt := top 98
abbrev N__law_most_of : List Str := ["jar", "word", "some", "rows", "a", "b", "c", "d", "at"]
theorem sc__law_most_of : FnScope N__law_most_of ["jar"] (defScope s__law_most_of) := ⟨rfl, rfl, rfl, by decide +kernel, rfl, by decide +kernel, by decide +kernel⟩
abbrev s__law_bounds_right : Stmt := top 99
abbrev N__law_bounds_right : List Str := ["jar", "most", "more", "text", "far", "heard_now", "odd", "long_now"]
theorem sc__law_bounds_right : FnScope N__law_bounds_right ["jar"] (defScope s__law_bounds_right) := ⟨rfl, rfl, rfl, by decide +kernel, rfl, by decide +kernel, by decide +kernel⟩
abbrev s_law : Stmt := top 100
abbrev N_law : List Str := ["script", "jar", "go", "heard_now"]
theorem sc_law : FnScope N_law ["script"] (defScope s_law) := ⟨rfl, rfl, rfl, by decide +kernel, rfl, by decide +kernel, by decide +kernel⟩
abbrev s_Refused___init__ : Stmt := inClass (top 2) 0
abbrev N_Refused___init__ : List Str := ["self", "what"]
theorem sc_Refused___init__ : FnScope N_Refused___init__ ["self", "what"] (defScope s_Refused___init__) := ⟨rfl, rfl, rfl, by decide +kernel, rfl, by decide +kernel, by decide +kernel⟩
abbrev s_Line___init__ : Stmt := inClass (top 31) 0
abbrev N_Line___init__ : List Str := ["self", "at", "words"]
theorem sc_Line___init__ : FnScope N_Line___init__ ["self", "at", "words"] (defScope s_Line___init__) := ⟨rfl, rfl, rfl, by decide +kernel, rfl, by decide +kernel, by decide +kernel⟩
abbrev s_Line_want : Stmt := inClass (top 31) 1
abbrev N_Line_want : List Str := ["self", "is_right"]
theorem sc_Line_want : FnScope N_Line_want ["self", "is_right"] (defScope s_Line_want) := ⟨rfl, rfl, rfl, by decide +kernel, rfl, by decide +kernel, by decide +kernel⟩
abbrev s_Line_is_over : Stmt := inClass (top 31) 2
abbrev N_Line_is_over : List Str := ["self"]
theorem sc_Line_is_over : FnScope N_Line_is_over ["self"] (defScope s_Line_is_over) := ⟨rfl, rfl, rfl, by decide +kernel, rfl, by decide +kernel, by decide +kernel⟩
abbrev s_Line_want_over : Stmt := inClass (top 31) 3
abbrev N_Line_want_over : List Str := ["self"]
theorem sc_Line_want_over : FnScope N_Line_want_over ["self"] (defScope s_Line_want_over) := ⟨rfl, rfl, rfl, by decide +kernel, rfl, by decide +kernel, by decide +kernel⟩
abbrev s_Line_take : Stmt := inClass (top 31) 4
abbrev N_Line_take : List Str := ["self"]
theorem sc_Line_take : FnScope N_Line_take ["self"] (defScope s_Line_take) := ⟨rfl, rfl, rfl, by decide +kernel, rfl, by decide +kernel, by decide +kernel⟩
abbrev s_Line_take_one : Stmt := inClass (top 31) 5
abbrev N_Line_take_one : List Str := ["self", "some", "word"]
theorem sc_Line_take_one : FnScope N_Line_take_one ["self", "some"] (defScope s_Line_take_one) := ⟨rfl, rfl, rfl, by decide +kernel, rfl, by decide +kernel, by decide +kernel⟩
abbrev s_Line_take_number : Stmt := inClass (top 31) 6
abbrev N_Line_take_number : List Str := ["self", "low", "high", "number"]
theorem sc_Line_take_number : FnScope N_Line_take_number ["self", "low", "high"] (defScope s_Line_take_number) := ⟨rfl, rfl, rfl, by decide +kernel, rfl, by decide +kernel, by decide +kernel⟩
abbrev s_Line_take_piece : Stmt := inClass (top 31) 7
abbrev N_Line_take_piece : List Str := ["self"]
theorem sc_Line_take_piece : FnScope N_Line_take_piece ["self"] (defScope s_Line_take_piece) := ⟨rfl, rfl, rfl, by decide +kernel, rfl, by decide +kernel, by decide +kernel⟩
/-- what the top has left -/
structure Tx (K : PySem.W.Frag) (mg : Str → Option Value) : Prop where
  d_whole : At K mg "whole" s_whole
  d_piece_wrong : At K mg "piece_wrong" s_piece_wrong
  d_is_piece : At K mg "is_piece" s_is_piece
  d_is_row : At K mg "is_row" s_is_row
  d_row_wrong : At K mg "row_wrong" s_row_wrong
  d_is_chain : At K mg "is_chain" s_is_chain
  d_lines_of : At K mg "lines_of" s_lines_of
  d_words_of : At K mg "words_of" s_words_of
  d_number_of : At K mg "number_of" s_number_of
  d_list_of : At K mg "list_of" s_list_of
  d_piece_of : At K mg "piece_of" s_piece_of
  d_fail : At K mg "fail" s_fail
  d_list_word : At K mg "list_word" s_list_word
  d_text_of : At K mg "text_of" s_text_of
  d_line_at : At K mg "line_at" s_line_at
  d_want_end : At K mg "want_end" s_want_end
  d_read_only : At K mg "read_only" s_read_only
  d_row_word : At K mg "row_word" s_row_word
  d_row_of : At K mg "row_of" s_row_of
  d_rows_in : At K mg "rows_in" s_rows_in
  d_is_number : At K mg "is_number" s_is_number
  d_are_rising : At K mg "are_rising" s_are_rising
  d_is_crowd : At K mg "is_crowd" s_is_crowd
  d_is_pair : At K mg "is_pair" s_is_pair
  d_are_pairs : At K mg "are_pairs" s_are_pairs
  d_is_set : At K mg "is_set" s_is_set
  d_is_paper : At K mg "is_paper" s_is_paper
  d_part_word : At K mg "part_word" s_part_word
  d_paper_text : At K mg "paper_text" s_paper_text
  d_pair_of : At K mg "pair_of" s_pair_of
  d_crowd_in_line : At K mg "crowd_in_line" s_crowd_in_line
  d_match_in : At K mg "match_in" s_match_in
  d_sets_in : At K mg "sets_in" s_sets_in
  d_indices_in : At K mg "indices_in" s_indices_in
  d_paper_in : At K mg "paper_in" s_paper_in
  d_read_paper : At K mg "read_paper" s_read_paper
  d__law_is_whole : At K mg "_law_is_whole" s__law_is_whole
  d__law_like : At K mg "_law_like" s__law_like
  d__law_pool : At K mg "_law_pool" s__law_pool
  d__law_take : At K mg "_law_take" s__law_take
  d__law_one : At K mg "_law_one" s__law_one
  d__law_mixed : At K mg "_law_mixed" s__law_mixed
  d__law_bent : At K mg "_law_bent" s__law_bent
  d__law_tx_number : At K mg "_law_tx_number" s__law_tx_number
  d__law_tx_list : At K mg "_law_tx_list" s__law_tx_list
  d__law_tx_piece : At K mg "_law_tx_piece" s__law_tx_piece
  d__law_tx_within : At K mg "_law_tx_within" s__law_tx_within
  d__law_tx_wrong : At K mg "_law_tx_wrong" s__law_tx_wrong
  d__law_tx_told : At K mg "_law_tx_told" s__law_tx_told
  d__law_tx_row : At K mg "_law_tx_row" s__law_tx_row
  d__law_tx_rows : At K mg "_law_tx_rows" s__law_tx_rows
  d__law_tx_tie : At K mg "_law_tx_tie" s__law_tx_tie
  d__law_tx_lot : At K mg "_law_tx_lot" s__law_tx_lot
  d__law_tx_parts : At K mg "_law_tx_parts" s__law_tx_parts
  d__law_tx_read_paper : At K mg "_law_tx_read_paper" s__law_tx_read_paper
  d__law_tx_of : At K mg "_law_tx_of" s__law_tx_of
  d__law_tx_chain : At K mg "_law_tx_chain" s__law_tx_chain
  d__law_tx_paper : At K mg "_law_tx_paper" s__law_tx_paper
  d__law_tx_bent : At K mg "_law_tx_bent" s__law_tx_bent
  d__law_papers_heard : At K mg "_law_papers_heard" s__law_papers_heard
  d__law_is_lot_of : At K mg "_law_is_lot_of" s__law_is_lot_of
  d__law_are_rows : At K mg "_law_are_rows" s__law_are_rows
  d__law_are_ties : At K mg "_law_are_ties" s__law_are_ties
  d__law_is_great : At K mg "_law_is_great" s__law_is_great
  d__law_is_paper_of : At K mg "_law_is_paper_of" s__law_is_paper_of
  d__law_great_drawn : At K mg "_law_great_drawn" s__law_great_drawn
  d__law_rising_drawn : At K mg "_law_rising_drawn" s__law_rising_drawn
  d__law_paper_drawn : At K mg "_law_paper_drawn" s__law_paper_drawn
  d__law_text_bent : At K mg "_law_text_bent" s__law_text_bent
  d__law_paper_right : At K mg "_law_paper_right" s__law_paper_right
  d__law_most_of : At K mg "_law_most_of" s__law_most_of
  d__law_bounds_right : At K mg "_law_bounds_right" s__law_bounds_right
  d_law : At K mg "law" s_law
  n_all : mg "all" = none
  n_bool : mg "bool" = none
  n_dict : mg "dict" = none
  n_enumerate : mg "enumerate" = none
  n_int : mg "int" = none
  n_isinstance : mg "isinstance" = none
  n_len : mg "len" = none
  n_list : mg "list" = none
  n_max : mg "max" = none
  n_range : mg "range" = none
  n_sorted : mg "sorted" = none
  n_str : mg "str" = none
  n_tuple : mg "tuple" = none
  n_zip : mg "zip" = none
  k_MOST_CORNER : Kc mg "MOST_CORNER" (.int 19)
  k_MOST_WIDE : Kc mg "MOST_WIDE" (.int 7)
  k_MOST_ROWS : Kc mg "MOST_ROWS" (.int 3000)
  k_FIGURES : Kc mg "FIGURES" (.str (Str.ofString "0123456789"))
  k_MOST_FIGURES : Kc mg "MOST_FIGURES" (.int 20)
  k_HIGHEST : Kc mg "HIGHEST" (.int 99999999999999999999)
  k_MOST_SIGNS : Kc mg "MOST_SIGNS" (.int 400000)
  k_GREATEST_FIELD : Kc mg "GREATEST_FIELD" (.int 97)
  k_MOST_PAIRS : Kc mg "MOST_PAIRS" (.int 80)
  k_MOST_SETS : Kc mg "MOST_SETS" (.int 159)
  k_MOST_INDICES : Kc mg "MOST_INDICES" (.int 400)
  k_MOST_IN_SET : Kc mg "MOST_IN_SET" (.int 7)
  k_LAST_IN_SET : Kc mg "LAST_IN_SET" (.int 19)
  k_CHAINS : ∃ a, Kc mg "CHAINS" (.ref a) ∧ ∀ H, Rp K H (.tuple [.str (Str.ofString "filling"), .str (Str.ofString "sight")]) (.ref a)
end Fd
-- E1
/-! The head: facts of the top by names. -/
namespace Fd
open PySem PySem.Spec PyProof.Rows L2
def dD (x : Str) (st : Stmt) : He.DefD := { at_ := (x, none), name := x, qual := x, params := defArgs st, body := defBody st, scope := defScope st }
def dM (C m q : Str) (st : Stmt) : He.DefD := { at_ := (C, some m), name := m, qual := q, params := defArgs st, body := defBody st, scope := defScope st }
def fnL0 : List He.DefD := [dD "whole" s_whole, dD "piece_wrong" s_piece_wrong, dD "is_piece" s_is_piece, dD "is_row" s_is_row, dD "row_wrong" s_row_wrong, dD "is_chain" s_is_chain, dD "lines_of" s_lines_of, dD "words_of" s_words_of, dD "number_of" s_number_of, dD "list_of" s_list_of, dD "piece_of" s_piece_of, dD "fail" s_fail, dD "list_word" s_list_word, dD "text_of" s_text_of, dD "line_at" s_line_at, dD "want_end" s_want_end, dD "read_only" s_read_only, dD "row_word" s_row_word, dD "row_of" s_row_of, dD "rows_in" s_rows_in, dD "is_number" s_is_number, dD "are_rising" s_are_rising, dD "is_crowd" s_is_crowd, dD "is_pair" s_is_pair, dD "are_pairs" s_are_pairs, dD "is_set" s_is_set, dD "is_paper" s_is_paper, dD "part_word" s_part_word, dD "paper_text" s_paper_text, dD "pair_of" s_pair_of]
def fnL1 : List He.DefD := [dD "crowd_in_line" s_crowd_in_line, dD "match_in" s_match_in, dD "sets_in" s_sets_in, dD "indices_in" s_indices_in, dD "paper_in" s_paper_in, dD "read_paper" s_read_paper, dD "_law_is_whole" s__law_is_whole, dD "_law_like" s__law_like, dD "_law_pool" s__law_pool, dD "_law_take" s__law_take, dD "_law_one" s__law_one, dD "_law_mixed" s__law_mixed, dD "_law_bent" s__law_bent, dD "_law_tx_number" s__law_tx_number, dD "_law_tx_list" s__law_tx_list, dD "_law_tx_piece" s__law_tx_piece, dD "_law_tx_within" s__law_tx_within, dD "_law_tx_wrong" s__law_tx_wrong, dD "_law_tx_told" s__law_tx_told, dD "_law_tx_row" s__law_tx_row, dD "_law_tx_rows" s__law_tx_rows, dD "_law_tx_tie" s__law_tx_tie, dD "_law_tx_lot" s__law_tx_lot, dD "_law_tx_parts" s__law_tx_parts, dD "_law_tx_read_paper" s__law_tx_read_paper, dD "_law_tx_of" s__law_tx_of, dD "_law_tx_chain" s__law_tx_chain, dD "_law_tx_paper" s__law_tx_paper, dD "_law_tx_bent" s__law_tx_bent, dD "_law_papers_heard" s__law_papers_heard]
def fnL2 : List He.DefD := [dD "_law_is_lot_of" s__law_is_lot_of, dD "_law_are_rows" s__law_are_rows, dD "_law_are_ties" s__law_are_ties, dD "_law_is_great" s__law_is_great, dD "_law_is_paper_of" s__law_is_paper_of, dD "_law_great_drawn" s__law_great_drawn, dD "_law_rising_drawn" s__law_rising_drawn, dD "_law_paper_drawn" s__law_paper_drawn, dD "_law_text_bent" s__law_text_bent, dD "_law_paper_right" s__law_paper_right, dD "_law_most_of" s__law_most_of, dD "_law_bounds_right" s__law_bounds_right, dD "law" s_law, dM "BadText" "__init__" "Refused.__init__" s_Refused___init__, dM "WrongLine" "__init__" "Refused.__init__" s_Refused___init__, dM "BadPaper" "__init__" "Refused.__init__" s_Refused___init__, dM "TooMany" "__init__" "Refused.__init__" s_Refused___init__, dM "Line" "__init__" "Line.__init__" s_Line___init__, dM "Line" "want" "Line.want" s_Line_want, dM "Line" "is_over" "Line.is_over" s_Line_is_over, dM "Line" "want_over" "Line.want_over" s_Line_want_over, dM "Line" "take" "Line.take" s_Line_take, dM "Line" "take_one" "Line.take_one" s_Line_take_one, dM "Line" "take_number" "Line.take_number" s_Line_take_number]
def fnL : List He.DefD := fnL0 ++ (fnL1 ++ (fnL2))
def faL0 : List He.Fa := [.glo "whole", .glo "piece_wrong", .glo "is_piece", .glo "is_row", .glo "row_wrong", .glo "is_chain", .glo "lines_of", .glo "words_of", .glo "number_of", .glo "list_of", .glo "piece_of", .glo "fail", .glo "list_word", .glo "text_of", .glo "line_at", .glo "want_end", .glo "read_only", .glo "row_word", .glo "row_of", .glo "rows_in", .glo "is_number", .glo "are_rising", .glo "is_crowd", .glo "is_pair", .glo "are_pairs", .glo "is_set", .glo "is_paper", .glo "part_word", .glo "paper_text", .glo "pair_of"]
def faL1 : List He.Fa := [.glo "crowd_in_line", .glo "match_in", .glo "sets_in", .glo "indices_in", .glo "paper_in", .glo "read_paper", .glo "_law_is_whole", .glo "_law_like", .glo "_law_pool", .glo "_law_take", .glo "_law_one", .glo "_law_mixed", .glo "_law_bent", .glo "_law_tx_number", .glo "_law_tx_list", .glo "_law_tx_piece", .glo "_law_tx_within", .glo "_law_tx_wrong", .glo "_law_tx_told", .glo "_law_tx_row", .glo "_law_tx_rows", .glo "_law_tx_tie", .glo "_law_tx_lot", .glo "_law_tx_parts", .glo "_law_tx_read_paper", .glo "_law_tx_of", .glo "_law_tx_chain", .glo "_law_tx_paper", .glo "_law_tx_bent", .glo "_law_papers_heard"]
def faL2 : List He.Fa := [.glo "_law_is_lot_of", .glo "_law_are_rows", .glo "_law_are_ties", .glo "_law_is_great", .glo "_law_is_paper_of", .glo "_law_great_drawn", .glo "_law_rising_drawn", .glo "_law_paper_drawn", .glo "_law_text_bent", .glo "_law_paper_right", .glo "_law_most_of", .glo "_law_bounds_right", .glo "law", .glo "BadText", .glo "WrongLine", .glo "BadPaper", .glo "TooMany", .glo "Refused", .glo "Line", .glo "CHAINS", .free "all", .free "bool", .free "dict", .free "enumerate", .free "int", .free "isinstance", .free "len", .free "list", .free "max", .free "range"]
def faL3 : List He.Fa := [.free "sorted", .free "str", .free "tuple", .free "zip", .free "ValueError", .int "MOST_CORNER" 19, .int "MOST_WIDE" 7, .int "MOST_ROWS" 3000, .int "MOST_FIGURES" 20, .int "HIGHEST" 99999999999999999999, .int "MOST_SIGNS" 400000, .int "GREATEST_FIELD" 97, .int "MOST_PAIRS" 80, .int "MOST_SETS" 159, .int "MOST_INDICES" 400, .int "MOST_IN_SET" 7, .int "LAST_IN_SET" 19, .str "FIGURES" "0123456789", .cls "Line", .mkr "Line", .noat "Line" "at", .noat "Line" "words", .noat "Line" "place", .meth "Line" "want", .meth "Line" "is_over", .meth "Line" "want_over", .meth "Line" "take", .meth "Line" "take_one", .meth "Line" "take_number", .exm "BadPaper" "BadPaper" true]
def faL4 : List He.Fa := [.exm "WrongLine" "BadPaper" false, .exm "WrongLine" "WrongLine" true, .exm "BadText" "BadPaper" false, .exm "BadText" "WrongLine" false, .exm "BadText" "BadText" true, .exm "TooMany" "BadPaper" false, .exm "TooMany" "WrongLine" false, .exm "TooMany" "BadText" false, .exm "TooMany" "TooMany" true]
def faL : List He.Fa := faL0 ++ (faL1 ++ (faL2 ++ (faL3 ++ (faL4))))
def tfL : List He.Defn := [("_law_tx_read_paper", none), ("_law_paper_right", none), ("_law_bounds_right", none), ("law", none)]
def loL0 : List PySem.Str := ["BadPaper", "BadText", "CHAINS", "FIGURES", "GREATEST_FIELD", "HIGHEST", "LAST_IN_SET", "Line", "MOST_CORNER", "MOST_FIGURES", "MOST_INDICES", "MOST_IN_SET", "MOST_PAIRS", "MOST_ROWS", "MOST_SETS", "MOST_SIGNS", "MOST_WIDE", "Refused", "TooMany", "WrongLine", "_law_are_rows", "_law_are_ties", "_law_bent", "_law_bounds_right", "_law_great_drawn", "_law_is_great", "_law_is_lot_of", "_law_is_paper_of", "_law_is_whole", "_law_like"]
def loL1 : List PySem.Str := ["_law_mixed", "_law_most_of", "_law_one", "_law_paper_drawn", "_law_paper_right", "_law_papers_heard", "_law_pool", "_law_rising_drawn", "_law_take", "_law_text_bent", "_law_tx_bent", "_law_tx_chain", "_law_tx_list", "_law_tx_lot", "_law_tx_number", "_law_tx_of", "_law_tx_paper", "_law_tx_parts", "_law_tx_piece", "_law_tx_read_paper", "_law_tx_row", "_law_tx_rows", "_law_tx_tie", "_law_tx_told", "_law_tx_within", "_law_tx_wrong", "_wall", "are_pairs", "are_rising", "crowd_in_line"]
def loL2 : List PySem.Str := ["fail", "indices_in", "is_chain", "is_crowd", "is_number", "is_pair", "is_paper", "is_piece", "is_row", "is_set", "line_at", "lines_of", "list_of", "list_word", "match_in", "number_of", "pair_of", "paper_in", "paper_text", "part_word", "piece_of", "piece_wrong", "read_only", "read_paper", "row_of", "row_word", "row_wrong", "rows_in", "sets_in", "text_of"]
def loL3 : List PySem.Str := ["want_end", "whole", "words_of"]
def loL : List PySem.Str := loL0 ++ (loL1 ++ (loL2 ++ (loL3)))
/-- an own class over ValueError -/
def excB (K : PySem.W.Frag) (C : Addr) : Bool := match K.lookup C with
  | some ⟨.type t, _, .cls cd, sl⟩ => (match cd.mro, sl.toList with
    | .ref C' :: bm, [_, _, _, _, some (.builtin n), _] => decide (t = "type") && (decide (C' = C) && (decide (n = "ValueError.__new__") && (!cd.hasDel && (cd.hasDict && PySem.HandSPX.refsVE bm))))
    | _, _ => false)
  | _ => false
def exnB (K : PySem.W.Frag) (x : Str) : Bool := excB K (He.ga K x) && (He.eqO (PySem.W.findIn K (.ref (He.ga K x)) "__setattr__") (some (some (.builtin "object.__setattr__"))) && (decide (PySem.W.subIn K (.ref (He.ga K x)) (.type "BaseException") = some true) &&
  (decide (PySem.W.typeIn K (.ref (He.ga K x)) = some (.type "type")) && (PySem.W.keepIn K (.ref (He.ga K x)) && (He.eqO (PySem.W.findIn K (.ref (He.ga K x)) "what") (some none) && (He.eqO (PySem.W.findIn K (.ref (He.ga K x)) "__init__") (some (some (.ref (He.ma K (He.ga K x) "__init__")))) &&
  (decide (PySem.W.typeIn K (.ref (He.ma K (He.ga K x) "__init__")) = some (.type "function")) && xfB K (He.ga K x))))))))
def chB (K : PySem.W.Frag) : Bool := He.tupB K "CHAINS" [.str "filling", .str "sight"]
def veB (K : PySem.W.Frag) : Bool := match PySem.W.findCls K (.type "ValueError") (.type "type") "__init__" with
  | some (.val (.builtin n)) => decide (n = "ValueError.__init__")
  | _ => false
def ndB (K : PySem.W.Frag) : Bool := decide ((tfL.map fun p => (He.cT K p).2).Nodup)
def exB (K : PySem.W.Frag) : Bool := exnB K "BadText" && exnB K "WrongLine" && exnB K "BadPaper" && exnB K "TooMany" && (chB K && (veB K && ndB K))
end Fd
-- Hq
/-! A Hook that looks at what the facts need, and no more. -/
namespace Fd
open PySem PySem.Spec PyProof.Rows L2
/-- what a def or a class leads to: its code object, its names, the classes over it -/
def refQ (o : Obj) : List Addr := match o.data with
  | .func fd => He.refV fd.code
  | .cls cd => cd.ns :: cd.mro.flatMap He.refV
  | _ => []
def stepQs (g : Addr → Option Obj) (as : List Addr) : List Addr := as.flatMap fun a => match g a with
  | some o => refQ o
  | none => []
/-- what a dict's values name -/
def valsQ (g : Addr → Option Obj) (as : List Addr) : List Addr := as.flatMap fun a => match g a with
  | some ⟨_, _, .dict es _, _⟩ => es.toList.flatMap fun e => He.refV e.val
  | _ => []
/-- the module's dict, its values, their codes and dicts, the methods, their codes -/
def asQ (g : Addr → Option Obj) : List Addr := (fun r0 => (fun r1 => (fun r2 => mainGlobals :: (r0 ++ (r1 ++ (r2 ++ stepQs g r2)))) (valsQ g r1)) (stepQs g r0)) (valsQ g [mainGlobals])
def obsQ (fa : List He.Fa) (fn : List He.DefD) (tf : List He.Defn) (ex : PySem.W.Frag → Bool) (g : Addr → Option Obj) : He.AlX := (fun K => (He.obsT fa fn [] K, ex K && He.tabsB g tf K)) (He.frT g (asQ g))
theorem saysQ_of {as : List Addr} {fa : List He.Fa} {fn : List He.DefD} {tf : List He.Defn} {ex : PySem.W.Frag → Bool} {w : World} {h : Heap}
    (e : ((He.obsT fa fn [] (He.frT h.get? as), ex (He.frT h.get? as) && He.tabsB h.get? tf (He.frT h.get? as)) : He.AlX) = He.valX fn [] w) : He.SaysX fa fn [] tf ex w h (He.frT h.get? as) := by
  have z := Prod.mk.inj e
  have y := Bool.and_eq_true_iff.mp z.2
  have tabs : ∀ p ∈ tf, PySem.W.codeHdIn (He.frT h.get? as) (He.cT (He.frT h.get? as) p).1 (He.cT (He.frT h.get? as) p).2 = true ∧ ∃ o, h.get? (He.cT (He.frT h.get? as) p).2 = some o ∧ He.emptyTab o = true := by
    intro p hp
    have x := Bool.and_eq_true_iff.mp (List.all_eq_true.mp y.2 p hp)
    refine ⟨x.1, ?_⟩
    have x2 := x.2
    revert x2
    cases h.get? (He.cT (He.frT h.get? as) p).2 with
    | none => exact fun x2 => by cases x2
    | some o => exact fun x2 => ⟨o, rfl, x2⟩
  refine { t := z.1, more := y.1, hd := fun p hp => (tabs p hp).1, out := fun p hp => ?_, empty := fun p hp => ?_ }
  · obtain ⟨o, a, b⟩ := (tabs p hp).2
    exact He.frT_none a b
  · obtain ⟨o, a, b⟩ := (tabs p hp).2
    rw [a, He.emptyTab_eq b]
def hookQ (fa : List He.Fa) (fn : List He.DefD) (tf : List He.Defn) (ex : PySem.W.Frag → Bool) : PySem.W.Hook where
  α := He.AlX
  obs := fun s => obsQ fa fn tf ex s.heap.get?
  val := fun w => He.valX fn [] w
  says := fun w h => ∃ K : PySem.W.Frag, K.In h ∧ He.SaysX fa fn [] tf ex w h K
  of := fun _ _ e => ⟨_, He.frT_in, saysQ_of e⟩
  keeps := fun _ _ _ ⟨K, hK, c⟩ k => ⟨K, hK.keeps k, { t := c.t, more := c.more, hd := c.hd, out := c.out, empty := fun p hp => k _ _ (c.empty p hp) }⟩
theorem obsQ_eq {fa : List He.Fa} {fn : List He.DefD} {tf : List He.Defn} {ex : PySem.W.Frag → Bool} (s : PySem.W.SharedT) : obsQ fa fn tf ex (HandSHeadRun.getT s) = (hookQ fa fn tf ex).obs s.abs := by
  have e : HandSHeadRun.getT s = s.abs.heap.get? := funext fun a => HandSHeadRun.getT_eq s a
  show obsQ fa fn tf ex (HandSHeadRun.getT s) = obsQ fa fn tf ex s.abs.heap.get?
  rw [e]
end Fd
-- Eq
namespace Fd
open PySem PySem.Spec PyProof.Rows L2
abbrev Rw : PySem.W.OpenRow := PySem.W.OpenLaw.row PySem.Challenge.rw_bornandshut_k88_papers_as_lines
theorem runX (w : World) : HandSHeadRun.RunEq Rw (PySem.W.view Rw.prog [100]) (hookQ faL fnL tfL exB) (fun s => obsQ faL fnL tfL exB (HandSHeadRun.getT s)) 6000 loL w := by
  intro os
  kernel_rfl
end Fd
-- D1
namespace Fd
open PySem PySem.Spec PyProof.Rows L2
/-! ### the mirror -/
def wholeB (d : PyData) (lo hi : Int) : Bool :=
  match d with
  | .int i => decide (lo ≤ i) && decide (i ≤ hi)
  | _ => false
def fWhole : List PyData → PyData → Prop := fun ds r => ∃ d lo hi, ds = [d, .int lo, .int hi] ∧ r = .bool (wholeB d lo hi)
def pwGo : Int → Nat → List PyData → PyData
  | _, _, [] => .none
  | last, i, d :: ds => if wholeB d (last + 1) 19 = true then (match d with | .int c => pwGo c (i + 1) ds | _ => .none) else .int (i : Nat)
def pieceWrong (d : PyData) : PyData :=
  match d with
  | .tuple ds => if decide (1 ≤ ds.length) && decide (ds.length ≤ 7) then pwGo (-1) 0 ds else .int (-1)
  | _ => .int (-1)
def isPieceB (d : PyData) : Bool := isNone (pieceWrong d)
def fPieceWrong : List PyData → PyData → Prop := fun ds r => ∃ d, ds = [d] ∧ r = pieceWrong d
def fB1 (f : PyData → Bool) : List PyData → PyData → Prop := fun ds r => ∃ d, ds = [d] ∧ r = .bool (f d)
theorem wholeInt {d : PyData} {lo hi : Int} (h : wholeB d lo hi = true) : ∃ i, d = .int i ∧ lo ≤ i ∧ i ≤ hi := by
  cases d with
  | int i =>
    simp only [wholeB, Bool.and_eq_true, decide_eq_true_eq] at h
    exact ⟨i, rfl, h.1, h.2⟩
  | _ => exact (Bool.false_ne_true h).elim
section
variable {P : Program} {w : World} {K : PySem.W.Frag} {mg : Str → Option Value} {base : Heap}
theorem cd_whole (T : Tx K mg) : Cd P w K mg base CX0 1 "whole" (SpD K fWhole) := by
  refine cd_of (k := 0) T.d_whole sc_whole (fun _ _ _ _ _ _ us hl => match us, hl with | [_, _, _], _ => rfl) (SpD.len fun ds r h => by obtain ⟨_, _, _, e, _⟩ := h; rw [e]; rfl) ?_
  intro f cdv A outer s H vs Q E hr ⟨ds, r, hds, hf, kk⟩
  obtain ⟨d, lo, hi, e1, e2⟩ := hf
  subst e1 e2
  obtain ⟨v0, v1, v2, e, r0, r1, r2⟩ := rps3 hds
  subst e
  refine ⟨_, (pss_one (ps_ret (pe_and (pe_callB (kIsi K) (by rfl) T.n_isinstance (by decide +kernel) (pa_cons (pv 0) (pa_cons (pe_bltn (v := .ty "int") (u := .type "int") (by rfl) T.n_int (by decide +kernel) rfl) pa_nil))) (pe_and (pe_not (pe_callB (kIsi K) (by rfl) T.n_isinstance (by decide +kernel) (pa_cons (pv 0) (pa_cons (pe_bltn (v := .ty "bool") (u := .type "bool") (by rfl) T.n_bool (by decide +kernel) rfl) pa_nil)))) (pe_one (pe_chain op_le op_le (pv 1) (pv 0) (pv 2))))))), ?_⟩
  refine ret0 kk x0 ?_ rfl
  cases d with
  | int i => exact ev_is (ev_and (ev_isInt (ev_var rfl r0)) fun _ => ev_and (ev_not (ev_isBool (ev_var rfl r0))) fun _ => ev_chain (ev_var rfl r1) (ev_var rfl r0) rv_B0 (fun _ => ev_var rfl r2) rv_B0) rfl
  | bool b => exact ev_is (ev_and (b := false) (ev_isInt (ev_var rfl r0)) fun _ => ev_and (b := false) (ev_not (ev_isBool (ev_var rfl r0))) fun h => (Bool.false_ne_true h).elim) rfl
  | none => exact ev_is (ev_and (b := false) (ev_isInt (ev_var rfl r0)) fun h => (Bool.false_ne_true h).elim) rfl
  | str b => exact ev_is (ev_and (b := false) (ev_isInt (ev_var rfl r0)) fun h => (Bool.false_ne_true h).elim) rfl
  | tuple b => exact ev_is (ev_and (b := false) (ev_isInt (ev_var rfl r0)) fun h => (Bool.false_ne_true h).elim) rfl
  | list b => exact (rp_list r0).elim
  | dict b => exact (rp_dict r0).elim
theorem cd_piece_wrong (T : Tx K mg) : Cd P w K mg base CX0 2 "piece_wrong" (SpD K fPieceWrong) := by
  refine cd_of (k := 1) T.d_piece_wrong sc_piece_wrong (fun _ _ _ _ _ _ us hl => match us, hl with | [_], _ => rfl) (SpD.len fun ds r h => by obtain ⟨_, e, _⟩ := h; rw [e]; rfl) ?_
  intro f cdv A outer s H vs Q E hr ⟨ds, r, hds, hf, kk⟩
  obtain ⟨d, e1, e2⟩ := hf
  subst e1 e2
  obtain ⟨v0, e, r0⟩ := rps1 hds
  subst e
  refine ⟨_, (pss_cons (ps_if (PW.pt (pw_or (pt_not (pt_val (pe_callB (kIsi K) (by rfl) T.n_isinstance (by decide +kernel) (pa_cons (pv 0) (pa_cons (pe_bltn (v := .ty "tuple") (u := .type "tuple") (by rfl) T.n_tuple (by decide +kernel) rfl) pa_nil))))) (pw_or1 (pt_not (pt_chain op_le op_le pe_int (pe_callB (kLen K) (by rfl) T.n_len PySem.boot_len (pa_cons (pv 0) pa_nil)) (pe_k T.k_MOST_WIDE))))))
      (pss_one (ps_ret (pe_un un_neg pe_int))) pss_nil)
    (pss_cons (ps_set (i := 1) sc_piece_wrong.nd rfl (Or.inl rfl) (pe_un un_neg pe_int))
    (pss_cons (ps_for PassesOwn.never rfl (pi_enumT (by rfl) T.n_enumerate (pa_cons (pv 0) pa_nil)) (pg_tup rfl (pgs_cons (pg_name (i := 2) sc_piece_wrong.nd rfl (Or.inl rfl)) (pgs_cons (pg_name (i := 3) sc_piece_wrong.nd rfl (Or.inl rfl)) pgs_nil)))
      (pss_cons (ps_if (pt_not (pt_val (pe_d (cd_whole T) hr (by decide) (pa_cons (pv 3) (pa_cons (pe_op op_add (pv 1) pe_int) (pa_cons (pe_k T.k_MOST_CORNER) pa_nil))))))
        (pss_one (ps_ret (pv 2))) pss_nil)
      (pss_one (ps_set (i := 1) sc_piece_wrong.nd rfl (Or.inl rfl) (pv 3)))))
    (pss_one (ps_ret pe_non))))), ?_⟩
  rcases tupCases d with ⟨ds, e⟩ | hd
  · subst e
    refine if0 (et_or (et_not (et_B (ev_isTup (ev_var rfl r0)))) fun _ => (et_not (et_of (ev_chain ev_int (ev_len (es_of_t (ev_var rfl r0))) rv_B0 (fun _ => ev_int) rv_B0)))) (fun hb H1 x1 => ?_) fun hb H1 x1 => ?_
    · have e : pieceWrong (.tuple ds) = .int (-1) := by
        simp only [isTup, Bool.not_true, Bool.false_or, Bool.not_eq_true'] at hb
        show (if decide (1 ≤ ds.length) && decide (ds.length ≤ 7) then pwGo (-1) 0 ds else .int (-1)) = _
        rw [if_neg]
        intro z
        simp only [Bool.and_eq_true, Bool.and_eq_false_iff, decide_eq_true_eq, decide_eq_false_iff_not] at hb z
        omega
      exact ret0 kk x1 (ev_neg ev_int) e.symm
    · have e : pieceWrong (.tuple ds) = pwGo (-1) 0 ds := by
        simp only [isTup, Bool.not_true, Bool.false_or, Bool.not_eq_false'] at hb
        show (if decide (1 ≤ ds.length) && decide (ds.length ≤ 7) then pwGo (-1) 0 ds else .int (-1)) = _
        rw [if_pos]
        simp only [Bool.and_eq_true, decide_eq_true_eq] at hb ⊢
        omega
      rw [e] at kk
      refine set0 K (ev_neg ev_int) fun v1 H2 x2 r1 => ?_
      replace r0 := (x1.trans x2).rp r0
      refine for_then (W := W0) trivial (src_enT (ev_var rfl r0)) (fun i σ H => ∃ (last : Int) (o2 o3 : Option V), σ = [some v0, some (.int last), o2, o3] ∧ pwGo last i (ds.drop i) = pwGo (-1) 0 ds)
        (fun H3 x3 => ⟨-1, none, none, by rw [rp_int.mp r1]; rfl, rfl⟩) (fun i d σ1 H3 H4 x N hi x3 hI x4 hx hN => ?_) fun σ1 H3 x3 ⟨last, o2, o3, e1, e2⟩ => ?_
      · obtain ⟨last, o2, o3, e1, e2⟩ := hI
        subst e1
        obtain ⟨c, hc, e3⟩ : ∃ c, ds[i]? = some c ∧ d = .tuple [.int (i : Nat), c] := by
          have hl : i < ds.length := by
            rw [← numD_len ds]
            exact (List.getElem?_eq_some_iff.mp hi).1
          unfold numD at hi
          rw [List.getElem?_zipWith, List.getElem?_range hl, List.getElem?_eq_getElem hl] at hi
          cases hi
          exact ⟨_, List.getElem?_eq_getElem hl, rfl⟩
        subst e3
        have dr : ds.drop i = c :: ds.drop (i + 1) := by
          obtain ⟨hl, e⟩ := List.getElem?_eq_some_iff.mp hc
          rw [List.drop_eq_getElem_cons hl, e]
        rw [dr] at e2
        refine g_pair hx fun a b r2 r3 => ?_
        refine if0 (et_not (et_B (ev_call (ea_cons (ev_var rfl r3) (ea_cons (ev_opI0 (ev_var rfl (rp_int.mpr rfl)) ev_int) (ea_cons ev_int ea_nil))) ⟨_, _, _, rfl, rfl⟩))) (fun hb H5 x5 => ?_) fun hb H5 x5 => ?_
        · refine ret0 kk ((((x1.trans x2).trans x3).trans x4).trans x5) (ev_var rfl (x5.rp r2)) ?_
          simp only [Bool.not_eq_true'] at hb
          rw [← e2]
          show _ = if wholeB c (last + 1) 19 = true then _ else _
          rw [hb]
          rfl
        · simp only [Bool.not_eq_false'] at hb
          obtain ⟨z, e4, _⟩ := wholeInt hb
          subst e4
          refine setl0 K (ev_var rfl (x5.rp r3)) fun v H6 x6 r6 => hN _ _ (x5.trans x6) ⟨z, some a, some b, by rw [rp_int.mp r6]; rfl, ?_⟩
          rw [← e2]
          show _ = if wholeB (.int z) (last + 1) 19 = true then pwGo z (i + 1) (ds.drop (i + 1)) else _
          rw [hb]
          rfl
      · subst e1
        rw [numD_len, List.drop_length] at e2
        exact ret0 kk ((x1.trans x2).trans x3) ev_non e2
  · have e : pieceWrong d = .int (-1) := by
      cases d with
      | tuple ds => cases hd
      | _ => rfl
    refine if0 (et_or (b := false) (et_not (et_B (ev_isTup (ev_var rfl r0)))) fun h => by rw [hd] at h; cases h) (fun hb H1 x1 => ?_) fun hb H1 x1 => ?_
    · exact ret0 kk x1 (ev_neg ev_int) e.symm
    · rw [hd] at hb
      cases hb
theorem cd_is_piece (T : Tx K mg) : Cd P w K mg base CX0 3 "is_piece" (SpD K (fB1 isPieceB)) := by
  refine cd_of (k := 2) T.d_is_piece sc_is_piece (fun _ _ _ _ _ _ us hl => match us, hl with | [_], _ => rfl) (SpD.len fun ds r h => by obtain ⟨_, e, _⟩ := h; rw [e]; rfl) ?_
  intro f cdv A outer s H vs Q E hr ⟨ds, r, hds, hf, kk⟩
  obtain ⟨d, e1, e2⟩ := hf
  subst e1 e2
  obtain ⟨v0, e, r0⟩ := rps1 hds
  subst e
  refine ⟨_, (pss_one (ps_ret (pe_cmpR op_isN (pe_d (cd_piece_wrong T) hr (by decide) (pa_cons (pv 0) pa_nil)) pe_non (nomark _)))), ?_⟩
  exact ret0 kk x0 (ev_isN (ev_call (ea_cons (ev_var rfl r0) ea_nil) ⟨_, rfl, rfl⟩) ev_non) rfl
end
end Fd
-- M1
/-! Papers and their lines, in plain Lean. -/
namespace Fd
open PySem PySem.Spec PyProof.Rows L2
abbrev S (l : List Nat) : Str := SX.S l
theorem S_tl (x : Str) : S x.cps.toList = x := SX.S_tl x
theorem S_len (l : List Nat) : (S l).length = l.length := SX.S_len l
theorem S_cps (l : List Nat) : (S l).cps.toList = l := rfl
theorem S_eq {a b : List Nat} : (S a = S b) ↔ a = b := ⟨SX.S_inj, fun h => by rw [h]⟩
/-! ### rising numbers -/
def rise : List Int → Bool
  | a :: b :: r => decide (a < b) && rise (b :: r)
  | _ => true
theorem rise_cons {a b : Int} {r : List Int} : rise (a :: b :: r) = (decide (a < b) && rise (b :: r)) := rfl
def intsOf : List PyData → Option (List Int)
  | [] => some []
  | .int i :: ds => (intsOf ds).map (i :: ·)
  | _ :: _ => none
theorem intsOf_map : ∀ ns : List Int, intsOf (ns.map .int) = some ns
  | [] => rfl
  | n :: ns => by
    show (intsOf (ns.map .int)).map (n :: ·) = _
    rw [intsOf_map ns]
    rfl
theorem intsOf_some : ∀ {ds : List PyData} {ns : List Int}, intsOf ds = some ns → ds = ns.map .int
  | [], ns, h => by cases h; rfl
  | .int i :: ds, ns, h => by
    cases e : intsOf ds with
    | none => simp only [intsOf, e] at h; cases h
    | some ms =>
      simp only [intsOf, e] at h
      cases h
      rw [intsOf_some e]
      rfl
  | .none :: ds, ns, h => by cases h
  | .bool _ :: ds, ns, h => by cases h
  | .str _ :: ds, ns, h => by cases h
  | .tuple _ :: ds, ns, h => by cases h
  | .list _ :: ds, ns, h => by cases h
  | .dict _ :: ds, ns, h => by cases h
/-- a lot of numbers in bounds, rising -/
def lotI (ns : List Int) (most : Nat) (lo hi : Int) : Bool := decide (1 ≤ ns.length) && decide (ns.length ≤ most) && (ns.all (fun n => decide (lo ≤ n) && decide (n ≤ hi)) && rise ns)
def lotB (d : PyData) (most : Nat) (lo hi : Int) : Bool :=
  match d with
  | .tuple ds => decide (1 ≤ ds.length) && decide (ds.length ≤ most) && (ds.all (fun d => wholeB d lo hi) && rise ((intsOf ds).getD []))
  | _ => false
theorem all_whole {lo hi : Int} : ∀ {ds : List PyData}, ds.all (fun d => wholeB d lo hi) = true → ∃ ns : List Int, ds = ns.map .int ∧ ns.all (fun n => decide (lo ≤ n) && decide (n ≤ hi)) = true
  | [], _ => ⟨[], rfl, rfl⟩
  | d :: ds, h => by
    rw [List.all_cons, Bool.and_eq_true] at h
    obtain ⟨i, e, h1, h2⟩ := wholeInt h.1
    obtain ⟨ns, e2, h3⟩ := all_whole h.2
    refine ⟨i :: ns, by rw [e, e2]; rfl, ?_⟩
    rw [List.all_cons, h3, decide_eq_true h1, decide_eq_true h2]
    rfl
theorem whole_all {lo hi : Int} : ∀ (ns : List Int), (ns.map PyData.int).all (fun d => wholeB d lo hi) = ns.all (fun n => decide (lo ≤ n) && decide (n ≤ hi))
  | [] => rfl
  | n :: ns => by
    rw [List.map_cons, List.all_cons, List.all_cons, whole_all ns]
    rfl
theorem lotB_map (ns : List Int) (most : Nat) (lo hi : Int) : lotB (.tuple (ns.map .int)) most lo hi = lotI ns most lo hi := by
  unfold lotB lotI
  simp only [List.length_map, whole_all, intsOf_map, Option.getD_some]
theorem lotB_some {d : PyData} {most : Nat} {lo hi : Int} (h : lotB d most lo hi = true) : ∃ ns : List Int, d = .tuple (ns.map .int) ∧ lotI ns most lo hi = true := by
  cases d with
  | tuple ds =>
    have h' := h
    simp only [lotB, Bool.and_eq_true] at h'
    obtain ⟨ns, e, _⟩ := all_whole h'.2.1
    subst e
    exact ⟨ns, rfl, by rw [← lotB_map]; exact h⟩
  | _ => exact (Bool.false_ne_true h).elim
/-- the program's pieces are such lots -/
def abv (last : Int) : List PyData → Bool
  | .int c :: _ => decide (last < c)
  | _ => true
theorem abv_int {last c : Int} {ds : List PyData} : abv last (.int c :: ds) = decide (last < c) := rfl
theorem pwGo_all : ∀ (ds : List PyData) (last : Int) (i : Nat), -1 ≤ last → isNone (pwGo last i ds) = (ds.all (fun d => wholeB d 0 19) && rise ((intsOf ds).getD []) && abv last ds)
  | [], _, _, _ => rfl
  | d :: ds, last, i, hl => by
    unfold pwGo
    by_cases hb : wholeB d (last + 1) 19 = true
    · obtain ⟨c, e, h1, h2⟩ := wholeInt hb
      subst e
      rw [if_pos hb, pwGo_all ds c (i + 1) (by omega), List.all_cons]
      have w0 : wholeB (.int c) 0 19 = true := by
        simp only [wholeB, Bool.and_eq_true, decide_eq_true_eq]
        omega
      rw [w0, Bool.true_and, abv_int, decide_eq_true (show last < c by omega), Bool.and_true]
      cases ds with
      | nil => rfl
      | cons e es =>
        cases hall : (e :: es).all (fun d => wholeB d 0 19) with
        | false => rfl
        | true =>
          obtain ⟨ns, e1, _⟩ := all_whole hall
          cases ns with
          | nil => cases e1
          | cons m ms =>
            rw [e1]
            have e2 : intsOf (PyData.int c :: (m :: ms).map PyData.int) = some (c :: m :: ms) := intsOf_map (c :: m :: ms)
            rw [e2, intsOf_map, Option.getD_some, Option.getD_some, rise_cons, List.map_cons, abv_int, Bool.true_and, Bool.true_and, Bool.and_comm]
    · rw [if_neg hb]
      have z : (PyData.int (i : Nat)) ≠ .none := fun z => by cases z
      show false = _
      symm
      cases d with
      | int c =>
        by_cases hc : wholeB (.int c) 0 19 = true
        · have : ¬ last < c := by
            intro q
            apply hb
            simp only [wholeB, Bool.and_eq_true, decide_eq_true_eq] at hc ⊢
            omega
          rw [abv_int, decide_eq_false this, Bool.and_false]
        · rw [List.all_cons, Bool.eq_false_iff.mpr hc, Bool.false_and, Bool.false_and, Bool.false_and]
      | _ => rfl
theorem isPiece_lot (d : PyData) : isPieceB d = lotB d 7 0 19 := by
  cases d with
  | tuple ds =>
    show isNone (if decide (1 ≤ ds.length) && decide (ds.length ≤ 7) then pwGo (-1) 0 ds else .int (-1)) = (decide (1 ≤ ds.length) && decide (ds.length ≤ 7) && (ds.all (fun d => wholeB d 0 19) && rise ((intsOf ds).getD [])))
    cases h : (decide (1 ≤ ds.length) && decide (ds.length ≤ 7)) with
    | false =>
      rw [if_neg (by decide), Bool.false_and]
      rfl
    | true =>
      rw [if_pos rfl, pwGo_all _ _ _ (by omega), Bool.true_and]
      cases hall : ds.all (fun d => wholeB d 0 19) with
      | false => rfl
      | true =>
        obtain ⟨ns, e1, h1⟩ := all_whole hall
        subst e1
        cases ns with
        | nil => rfl
        | cons m ms =>
          have : (0 : Int) ≤ m := by
            rw [List.all_cons, Bool.and_eq_true, Bool.and_eq_true, decide_eq_true_eq] at h1
            exact h1.1.1
          rw [List.map_cons, abv_int, decide_eq_true (show -1 < m by omega), Bool.and_true]
  | _ => rfl
end Fd
-- Ev3
namespace Fd
open PySem PySem.Spec PyProof.Rows L2
theorem cutD_from (ds : List PyData) (k : Nat) : cutD ds (some (k : Int)) none = ds.drop k := by
  unfold cutD
  rw [HT.sIx_nat, HT.sIx_none]
  by_cases h : k ≤ ds.length
  · rw [Nat.min_eq_left h]
    exact List.take_of_length_le (by rw [List.length_drop]; exact Nat.le_refl _)
  · rw [Nat.min_eq_right (by omega), List.drop_of_length_le (Nat.le_refl _), List.drop_of_length_le (by omega), List.take_nil]
theorem cutD_to (ds : List PyData) (k : Nat) : cutD ds none (some (k : Int)) = ds.take k := by
  unfold cutD
  rw [HT.sIx_nat, HT.sIx_none, List.drop_zero, Nat.sub_zero]
  by_cases h : k ≤ ds.length
  · rw [Nat.min_eq_left h]
  · rw [Nat.min_eq_right (by omega), List.take_of_length_le (Nat.le_refl _), List.take_of_length_le (by omega)]
def ltP : PyData → Bool
  | .tuple [.int a, .int b] => decide (a < b)
  | _ => false
theorem all_ltP : ∀ ns : List Int, (List.zipWith pairD (ns.map .int) ((ns.map PyData.int).drop 1)).all ltP = rise ns
  | [] => rfl
  | [a] => rfl
  | a :: b :: r => by
    have ih := all_ltP (b :: r)
    rw [rise_cons, ← ih]
    rfl
theorem mem_ltP : ∀ (ns : List Int) (d : PyData), d ∈ List.zipWith pairD (ns.map .int) ((ns.map PyData.int).drop 1) → ∃ a b : Int, d = pairD (.int a) (.int b)
  | [], d, h => by simp at h
  | [a], d, h => by simp at h
  | a :: b :: r, d, h => by
    have e : List.zipWith pairD ((a :: b :: r).map .int) (((a :: b :: r).map PyData.int).drop 1) = pairD (.int a) (.int b) :: List.zipWith pairD ((b :: r).map .int) (((b :: r).map PyData.int).drop 1) := rfl
    rw [e] at h
    rcases List.mem_cons.mp h with z | z
    · exact ⟨a, b, z⟩
    · exact mem_ltP (b :: r) d z
section
variable {W : Wd} {K : PySem.W.Frag} {σ : L2.St} {H : Hp} {ta tb te : TE} {ds : List PyData}
theorem ev_allS {wi : TI} {g : TG} {vs : List Nat} {fB : PyData → Bool} (hs : Src W K wi σ H ds) (hl : ds.length ≤ 10000000) (hf : ∀ d ∈ ds, LcStep W K σ vs g tYes te H d (some (.bool (fB d)))) :
    Ev W K (tCB (rAll K) (tCons (tLc wi g tYes te vs) tNil)) σ H (.bool (ds.all fB)) := by
  have h := el_map (fo := fun d => .bool (fB d)) hs hl hf
  have e : ds.map (fun d => PyData.bool (fB d)) = (ds.map fB).map .bool := by rw [List.map_map]; rfl
  rw [e] at h
  have h2 := ev_all h
  rw [List.all_map] at h2
  exact h2
/-- all([f(x) for x in t]) -/
theorem ev_allT {i : Nat} {vs : List Nat} {fB : PyData → Bool} (h : Ev W K ta σ H (.tuple ds)) (hl : ds.length ≤ 10000000) (he : ∀ d ∈ ds, ∀ H1 x, Wx W H H1 → Rp K H1 d x → Ev W K te ((wipe σ vs).set i (some x)) H1 (.bool (fB d)))
    (hw : ∀ x : V, wipe ((wipe σ vs).set i (some x)) vs = wipe σ vs := by intro _; rfl) :
    Ev W K (tCB (rAll K) (tCons (tLc (iTup K ta) (gName i) tYes te vs) tNil)) σ H (.bool (ds.all fB)) :=
  ev_allS (src_tup h) hl fun d hd => lcs_name (he d hd) hw
/-- all([a < b for a, b in zip(t, t[1:])]) -/
theorem ev_riseS {wi : TI} {i j : Nat} {vs : List Nat} {ns : List Int} (hs : Src W K wi σ H (List.zipWith pairD (ns.map .int) ((ns.map PyData.int).drop 1))) (hl : ns.length ≤ 10000000)
    (h1 : ∀ x y : V, (((wipe σ vs).set i (some x)).set j (some y))[i]? = some (some x) := by intro _ _; rfl) (h2 : ∀ x y : V, (((wipe σ vs).set i (some x)).set j (some y))[j]? = some (some y) := by intro _ _; rfl)
    (hw : ∀ x y : V, wipe (((wipe σ vs).set i (some x)).set j (some y)) vs = wipe σ vs := by intro _ _; rfl) :
    Ev W K (tCB (rAll K) (tCons (tLc wi (gTup K 2 (gCons (gName i) (gCons (gName j) gNil))) tYes (tOp (rI0 fun i j => .bl (decide (i < j))) (tVar i) (tVar j)) vs) tNil)) σ H (.bool (rise ns)) := by
  rw [← all_ltP]
  refine ev_allS hs ?_ fun d hd => ?_
  · rw [List.length_zipWith, List.length_map, List.length_drop, List.length_map]
    omega
  · obtain ⟨a, b, e⟩ := mem_ltP ns d hd
    subst e
    exact lcs_pair (fun H1 x y x1 r1 r2 => ev_opB0 (ev_var (h1 x y) r1) (ev_var (h2 x y) r2)) hw
theorem ev_riseT {i j : Nat} {vs : List Nat} {ns : List Int} (ha : Ev W K ta σ H (.tuple (ns.map .int))) (hb : Ev W K tb σ H (.tuple ((ns.map PyData.int).drop 1))) (hl : ns.length ≤ 10000000)
    (h1 : ∀ x y : V, (((wipe σ vs).set i (some x)).set j (some y))[i]? = some (some x) := by intro _ _; rfl) (h2 : ∀ x y : V, (((wipe σ vs).set i (some x)).set j (some y))[j]? = some (some y) := by intro _ _; rfl)
    (hw : ∀ x y : V, wipe (((wipe σ vs).set i (some x)).set j (some y)) vs = wipe σ vs := by intro _ _; rfl) :
    Ev W K (tCB (rAll K) (tCons (tLc (RZ.iZipA K (tCons ta (tCons tb tNil))) (gTup K 2 (gCons (gName i) (gCons (gName j) gNil))) tYes (tOp (rI0 fun i j => .bl (decide (i < j))) (tVar i) (tVar j)) vs) tNil)) σ H (.bool (rise ns)) :=
  ev_riseS (src_zipT ha hb) hl h1 h2 hw
theorem ev_riseL {i j : Nat} {vs : List Nat} {ns : List Int} (ha : EvP ta σ H (VP.r W K (ns.map .int))) (hb : EvP tb σ H (VP.r W K ((ns.map PyData.int).drop 1))) (hl : ns.length ≤ 10000000)
    (h1 : ∀ x y : V, (((wipe σ vs).set i (some x)).set j (some y))[i]? = some (some x) := by intro _ _; rfl) (h2 : ∀ x y : V, (((wipe σ vs).set i (some x)).set j (some y))[j]? = some (some y) := by intro _ _; rfl)
    (hw : ∀ x y : V, wipe (((wipe σ vs).set i (some x)).set j (some y)) vs = wipe σ vs := by intro _ _; rfl) :
    Ev W K (tCB (rAll K) (tCons (tLc (RZ.iZipA K (tCons ta (tCons tb tNil))) (gTup K 2 (gCons (gName i) (gCons (gName j) gNil))) tYes (tOp (rI0 fun i j => .bl (decide (i < j))) (tVar i) (tVar j)) vs) tNil)) σ H (.bool (rise ns)) :=
  ev_riseS (src_zipL ha hb) hl h1 h2 hw
/-- t[1:] -/
theorem ev_tailT (h : Ev W K ta σ H (.tuple ds)) : Ev W K (tSl (rSlA K) ta (tPart (tC (.int 1))) tNoPart) σ H (.tuple (ds.drop 1)) := by
  have z := ev_slT h (eo_some (K := K) (i := 1) ev_int) eo_none
  rw [show (some (1 : Int)) = some ((1 : Nat) : Int) from rfl, cutD_from] at z
  exact z
/-- the item at a place that is known -/
theorem ev_at {j : Nat} {d : PyData} (h : Ev W K ta σ H (.tuple ds)) (hd : ds[j]? = some d) : Ev W K (tOp (rIxT K) ta (tC (.int (j : Int)))) σ H d :=
  ev_ixT h ev_int (ixN_nat (List.getElem?_eq_some_iff.mp hd).1) hd
/-- xs[1:] where that may be a list or a tuple -/
theorem ev_tailTo (h : Ev W K ta σ H (.tuple ds)) : Ev W K (tSl (fun x lo hi H Q => rSlL K x lo hi H Q ∨ rSlA K x lo hi H Q) ta (tPart (tC (.int 1))) tNoPart) σ H (.tuple (ds.drop 1)) := fun H1 x Q k =>
  h H1 x _ fun v H2 x2 hv => ⟨1, rfl, .inr (by
    have z : Ev W K (tSl (rSlA K) (tC v) (tPart (tC (.int 1))) tNoPart) σ H2 (.tuple (ds.drop 1)) := ev_tailT (fun H3 x3 Q k => k v H3 (Wx.refl x3.2.1) (x3.rp hv))
    obtain ⟨i, e, q⟩ := z H2 (Wx.refl x2.2.1) Q fun v H3 x3 r => k v H3 (x2.trans x3) r
    cases e
    exact q)⟩
theorem el_tailLo (h : EvP ta σ H (VP.r W K ds)) : EvL W K (tSl (fun x lo hi H Q => rSlL K x lo hi H Q ∨ rSlA K x lo hi H Q) ta (tPart (tC (.int 1))) tNoPart) σ H (ds.drop 1) := fun H1 x Q k =>
  h H1 x _ fun v H2 x2 hv => ⟨1, rfl, .inl (by
    have z : EvL W K (tSl (rSlL K) (tC v) (tPart (tC (.int 1))) tNoPart) σ H2 (ds.drop 1) := by
      have y := el_slL (K := K) (σ := σ) (H := H2) (te := tC v) (ds := ds) (fun H3 x3 Q k => k v H3 (Wx.refl x3.2.1) ((VP.r W K ds).st x3 hv)) (eo_some (K := K) (i := 1) ev_int) eo_none
      rw [show (some (1 : Int)) = some ((1 : Nat) : Int) from rfl, cutD_from] at y
      exact y
    obtain ⟨i, e, q⟩ := z H2 (Wx.refl x2.2.1) Q fun v H3 x3 r => k v H3 (x2.trans x3) r
    cases e
    exact q)⟩
end
end Fd
-- M2
namespace Fd
open PySem PySem.Spec PyProof.Rows L2
/-! ### rows of chains -/
def rowB (hi : Int) (d : PyData) : Bool :=
  match d with
  | .tuple [a, b] => lotB a 7 0 19 && wholeB b 1 hi
  | _ => false
def keyOf : PyData → List Int
  | .tuple (.tuple ds :: _) => (intsOf ds).getD []
  | _ => []
def okKey (last : Option (List Int)) (k : List Int) : Bool :=
  match last with
  | none => true
  | some l => decide (k.length = l.length) && HT.lexLt l k
def rwGo (hi : Int) : Option (List Int) → Nat → List PyData → PyData
  | _, _, [] => .none
  | last, i, d :: ds => if (rowB hi d && okKey last (keyOf d)) = true then rwGo hi (some (keyOf d)) (i + 1) ds else .int (i : Nat)
def adjFrom (last : Option (List Int)) : List PyData → Bool
  | [] => true
  | d :: ds => okKey last (keyOf d) && adjFrom (some (keyOf d)) ds
def chainB (hi : Int) (ds : List PyData) : Bool := ds.all (rowB hi) && adjFrom none ds
theorem rwGo_none (hi : Int) : ∀ (ds : List PyData) (last : Option (List Int)) (i : Nat), isNone (rwGo hi last i ds) = (ds.all (rowB hi) && adjFrom last ds)
  | [], _, _ => rfl
  | d :: ds, last, i => by
    unfold rwGo adjFrom
    rw [List.all_cons]
    cases h1 : rowB hi d with
    | false => rfl
    | true =>
      cases h2 : okKey last (keyOf d) with
      | false =>
        rw [if_neg (by decide)]
        show false = _
        rw [Bool.false_and, Bool.and_false]
      | true =>
        rw [if_pos (by rfl), rwGo_none hi ds, Bool.true_and, Bool.true_and]
theorem rowB_some {hi : Int} {d : PyData} (h : rowB hi d = true) : ∃ (ns : List Int) (n : Int), d = .tuple [.tuple (ns.map .int), .int n] ∧ lotI ns 7 0 19 = true ∧ 1 ≤ n ∧ n ≤ hi := by
  cases d with
  | tuple ds =>
    match ds with
    | [a, b] =>
      have h' : (lotB a 7 0 19 && wholeB b 1 hi) = true := h
      rw [Bool.and_eq_true] at h'
      obtain ⟨ns, e, h1⟩ := lotB_some h'.1
      obtain ⟨n, e2, h2, h3⟩ := wholeInt h'.2
      exact ⟨ns, n, by rw [e, e2], h1, h2, h3⟩
    | [] => exact (Bool.false_ne_true h).elim
    | [_] => exact (Bool.false_ne_true h).elim
    | _ :: _ :: _ :: _ => exact (Bool.false_ne_true h).elim
  | _ => exact (Bool.false_ne_true h).elim
theorem keyOf_row (ns : List Int) (r : List PyData) : keyOf (.tuple (.tuple (ns.map .int) :: r)) = ns := by
  show (intsOf (ns.map .int)).getD [] = ns
  rw [intsOf_map]
  rfl
/-! ### papers -/
def HI : Int := 99999999999999999999
def greatB (d : PyData) : Bool := wholeB d 0 HI
def tieB (d : PyData) : Bool :=
  match d with
  | .tuple [a, b] => greatB a && greatB b
  | _ => false
def fstI : PyData → Int
  | .tuple (.int i :: _) => i
  | _ => 0
def rowsB (d : PyData) : Bool :=
  match d with
  | .tuple ds => decide ((ds.length : Int) ≤ 3000) && chainB 96 ds
  | _ => false
def tiesB (ds : List PyData) : Bool := !(decide ((80 : Int) < ds.length) || !ds.all tieB) && rise (ds.map fstI)
def setB (d : PyData) : Bool := lotB d 7 1 19
def tFill : Str := Str.ofString "filling"
def tSight : Str := Str.ofString "sight"
def tCrowd : Str := Str.ofString "crowd"
def tMatch : Str := Str.ofString "match"
def tPlan : Str := Str.ofString "plan"
def tVine : Str := Str.ofString "vine"
def crowdB (ds : List PyData) : Bool :=
  match ds with
  | [_, s, l] => wholeB s 0 1 && lotB l 80 0 HI
  | _ => false
def restB (w : Str) (ds : List PyData) : Bool :=
  if (decide (w = tFill) || decide (w = tSight)) = true then decide ((ds.length : Int) ≤ 3000) && chainB 96 ds
  else if w = tMatch then tiesB ds
  else if w = tPlan then decide ((ds.length : Int) ≤ 159) && ds.all setB
  else decide (w = tVine) && (decide ((ds.length : Int) ≤ 400) && ds.all greatB)
def paperB (d : PyData) : Bool :=
  match d with
  | .tuple (.str w :: r) => if w = tCrowd then crowdB (.str w :: r) else match r with
    | [.tuple ds] => restB w ds
    | _ => false
  | _ => false
theorem tieB_some {d : PyData} (h : tieB d = true) : ∃ a b : Int, d = .tuple [.int a, .int b] ∧ 0 ≤ a ∧ a ≤ HI ∧ 0 ≤ b ∧ b ≤ HI := by
  cases d with
  | tuple ds =>
    match ds with
    | [a, b] =>
      have h' : (greatB a && greatB b) = true := h
      rw [Bool.and_eq_true] at h'
      obtain ⟨n, e, h1, h2⟩ := wholeInt h'.1
      obtain ⟨m, e2, h3, h4⟩ := wholeInt h'.2
      exact ⟨n, m, by rw [e, e2], h1, h2, h3, h4⟩
    | [] => exact (Bool.false_ne_true h).elim
    | [_] => exact (Bool.false_ne_true h).elim
    | _ :: _ :: _ :: _ => exact (Bool.false_ne_true h).elim
  | _ => exact (Bool.false_ne_true h).elim
theorem all_tie : ∀ {ds : List PyData}, ds.all tieB = true → ∃ ps : List (Int × Int), ds = ps.map (fun p => .tuple [.int p.1, .int p.2])
  | [], _ => ⟨[], rfl⟩
  | d :: ds, h => by
    rw [List.all_cons, Bool.and_eq_true] at h
    obtain ⟨a, b, e, _⟩ := tieB_some h.1
    obtain ⟨ps, e2⟩ := all_tie h.2
    exact ⟨(a, b) :: ps, by rw [e, e2]; rfl⟩
end Fd
-- D2
namespace Fd
open PySem PySem.Spec PyProof.Rows L2
section
variable {P : Program} {w : World} {K : PySem.W.Frag} {mg : Str → Option Value} {base : Heap}
theorem cd_is_number (T : Tx K mg) : Cd P w K mg base CX0 2 "is_number" (SpD K (fB1 greatB)) := by
  refine cd_of (k := 1) T.d_is_number sc_is_number (fun _ _ _ _ _ _ us hl => match us, hl with | [_], _ => rfl) (SpD.len fun ds r h => by obtain ⟨_, e, _⟩ := h; rw [e]; rfl) ?_
  intro f cdv A outer s H vs Q E hr ⟨ds, r, hds, hf, kk⟩
  obtain ⟨d, e1, e2⟩ := hf
  subst e1 e2
  obtain ⟨v0, e, r0⟩ := rps1 hds
  subst e
  refine ⟨_, (pss_one (ps_ret (pe_d (cd_whole T) hr (by decide) (pa_cons (pv 0) (pa_cons pe_int (pa_cons (pe_k T.k_HIGHEST) pa_nil)))))), ?_⟩
  exact ret0 kk x0 (ev_call (ea_cons (ev_var rfl r0) (ea_cons ev_int (ea_cons ev_int ea_nil))) ⟨_, _, _, rfl, rfl⟩) rfl
/-- rising numbers, in a list or in a tuple -/
def spRising (K : PySem.W.Frag) : Sp := fun vs H Q _ => ∃ (v : V) (ns : List Int), vs = [v] ∧ ns.length ≤ 10000000 ∧ (Rp K H (.tuple (ns.map .int)) v ∨ ∃ p, v = .ref p ∧ H p = some (.lst (ns.map .int))) ∧ ∀ v' H', Same H H' → Rp K H' (.bool (rise ns)) v' → Q v' H'
theorem cd_are_rising (T : Tx K mg) : Cd P w K mg base CX0 1 "are_rising" (spRising K) := by
  refine cd_of (k := 0) T.d_are_rising sc_are_rising (fun _ _ _ _ _ _ us hl => match us, hl with | [_], _ => rfl) (fun vs H Q E h => by obtain ⟨v, ns, e, _⟩ := h; rw [e]; rfl) ?_
  intro f cdv A outer s H vs Q E hr ⟨v, ns, e, hl, hv, kk⟩
  subst e
  refine ⟨_, (pss_one (ps_ret (pe_callB (cr_all rfl) (by rfl) T.n_all (by decide +kernel) (pa_cons (pe_lc (own := [("one", 1), ("other", 2)]) (g := (gTup K 2 (gCons (gName 1) (gCons (gName 2) gNil)))) (tt := tYes) rfl sc_are_rising.nd (RZ.pi_zipA (by rfl) T.n_zip (pa_cons (pv 0) (pa_cons (pe_slice (SlR.or sl_list sl_tupA) (pv 0) (po_some pe_int) po_none) pa_nil))) (blkOk_by (N := N_are_rising) (sc := defScope s_are_rising) (by decide +kernel)) (fun _ _ _ _ _ => (pg_tup rfl (pgs_cons (pg_name (i := 1) sc_are_rising.nd rfl (Or.inl rfl)) (pgs_cons (pg_name (i := 2) sc_are_rising.nd rfl (Or.inl rfl)) pgs_nil)))) (fun _ _ _ _ _ => pts_nil) (fun _ _ _ _ _ => (pe_cmpR op_lt (pv 1) (pv 2) (nomark _)))) pa_nil)))), ?_⟩
  rcases hv with r0 | ⟨p, e, hp⟩
  · exact ret0 kk x0 (ev_riseT (ev_var rfl r0) (ev_tailTo (ev_var rfl r0)) hl) rfl
  · subst e
    have r0 : (VP.r W0 K (ns.map .int)).P H (.ref p) := ⟨p, _, rfl, ⟨SqL.of hp, fun z => z⟩, Rps.ints ns⟩
    exact ret0 kk x0 (ev_riseL (evp_var rfl r0) (er_of_l (el_tailLo (evp_var rfl r0))) hl) rfl
theorem cd_is_row (T : Tx K mg) : Cd P w K mg base CX0 4 "is_row" (SpD K (fun ds r => ∃ p d, ds = [.int p, d] ∧ r = .bool (rowB (p - 1) d))) := by
  refine cd_of (k := 3) T.d_is_row sc_is_row (fun _ _ _ _ _ _ us hl => match us, hl with | [_, _], _ => rfl) (SpD.len fun ds r h => by obtain ⟨_, _, e, _⟩ := h; rw [e]; rfl) ?_
  intro f cdv A outer s H vs Q E hr ⟨ds, r, hds, hf, kk⟩
  obtain ⟨p, d, e1, e2⟩ := hf
  subst e1 e2
  obtain ⟨v0, v1, e, r0, r1⟩ := rps2 hds
  subst e
  refine ⟨_, (pss_one (ps_ret (pe_and (pe_callB (kIsi K) (by rfl) T.n_isinstance (by decide +kernel) (pa_cons (pv 1) (pa_cons (pe_bltn (v := .ty "tuple") (u := .type "tuple") (by rfl) T.n_tuple (by decide +kernel) rfl) pa_nil))) (pe_and (pe_cmpR op_eq (pe_callB (kLen K) (by rfl) T.n_len PySem.boot_len (pa_cons (pv 1) pa_nil)) pe_int (nomark _)) (pe_and (pe_d (cd_is_piece T) hr (by decide) (pa_cons (pe_ix (ixT K) (pv 1) pe_int (fun _ _ => rfl)) pa_nil)) (pe_one (pe_d (cd_whole T) hr (by decide) (pa_cons (pe_ix (ixT K) (pv 1) pe_int (fun _ _ => rfl)) (pa_cons pe_int (pa_cons (pe_op op_sub (pv 0) pe_int) pa_nil)))))))))), ?_⟩
  rcases tupCases d with ⟨ds, e⟩ | hd
  · subst e
    match ds with
    | [a, b] =>
      refine ret0 kk x0 (ev_and (ev_isTup (ev_var rfl r1)) fun _ => (ev_and (ev_eqI (ev_len (es_of_t (ev_var rfl r1))) ev_int) fun _ => (ev_and (ev_call (ea_cons (ev_at (j := 0) (ev_var rfl r1) rfl) ea_nil) ⟨_, rfl, rfl⟩) fun _ => (ev_call (ea_cons (ev_at (j := 1) (ev_var rfl r1) rfl) (ea_cons ev_int (ea_cons (ev_opI0 (ev_var rfl r0) ev_int) ea_nil))) ⟨_, _, _, rfl, rfl⟩)))) ?_
      rw [isPiece_lot]
      rfl
    | [] => exact ret0 kk x0 (ev_and (ev_isTup (ev_var rfl r1)) fun _ => (ev_and (b := false) (ev_eqI (ev_len (es_of_t (ev_var rfl r1))) ev_int) fun h => (Bool.false_ne_true h).elim)) rfl
    | [a] => exact ret0 kk x0 (ev_and (ev_isTup (ev_var rfl r1)) fun _ => (ev_and (b := false) (ev_eqI (ev_len (es_of_t (ev_var rfl r1))) ev_int) fun h => (Bool.false_ne_true h).elim)) rfl
    | a :: b :: c :: l =>
      have hn : ((((a :: b :: c :: l).length : Nat) : Int) = 2) ↔ False := by
        rw [List.length_cons, List.length_cons, List.length_cons]
        exact ⟨fun h => by omega, False.elim⟩
      refine ret0 kk x0 (ev_and (ev_isTup (ev_var rfl r1)) fun _ => (ev_and (b := false) (ev_eqI (ev_len (es_of_t (ev_var rfl r1))) ev_int) fun h => by rw [decide_eq_true_eq, hn] at h; exact h.elim)) ?_
      rw [Bool.and_false, Bool.and_false]
      rfl
  · refine ret0 kk x0 (ev_and (b := false) (ev_isTup (ev_var rfl r1)) fun h => by rw [hd] at h; cases h) ?_
    rw [Bool.and_false]
    cases d with
    | tuple ds => cases hd
    | _ => rfl
theorem cd_row_wrong (T : Tx K mg) : Cd P w K mg base CX0 5 "row_wrong" (SpD K (fun ds r => ∃ p rs, ds = [.int p, .tuple rs] ∧ r = rwGo (p - 1) none 0 rs)) := by
  refine cd_of (k := 4) T.d_row_wrong sc_row_wrong (fun _ _ _ _ _ _ us hl => match us, hl with | [_, _], _ => rfl) (SpD.len fun ds r h => by obtain ⟨_, _, e, _⟩ := h; rw [e]; rfl) ?_
  intro f cdv A outer s H vs Q E hr ⟨ds, r, hds, hf, kk⟩
  obtain ⟨p, rs, e1, e2⟩ := hf
  subst e1 e2
  obtain ⟨v0, v1, e, r0, r1⟩ := rps2 hds
  subst e
  refine ⟨_, (pss_cons (ps_set (i := 2) sc_row_wrong.nd rfl (Or.inl rfl) pe_non)
    (pss_cons (ps_for PassesOwn.never rfl (pi_enumT (by rfl) T.n_enumerate (pa_cons (pv 1) pa_nil)) (pg_tup rfl (pgs_cons (pg_name (i := 3) sc_row_wrong.nd rfl (Or.inl rfl)) (pgs_cons (pg_name (i := 4) sc_row_wrong.nd rfl (Or.inl rfl)) pgs_nil)))
      (pss_cons (ps_if (pt_not (pt_val (pe_d (cd_is_row T) hr (by decide) (pa_cons (pv 0) (pa_cons (pv 4) pa_nil)))))
        (pss_one (ps_ret (pv 3))) pss_nil)
      (pss_cons (ps_if (PW.pt (pw_and (pt_cmpR op_notN (pv 2) pe_non (nomark _)) (pw_and1 (PW.pt (pw_or (pt_cmpR op_ne (pe_callB (kLen K) (by rfl) T.n_len PySem.boot_len (pa_cons (pe_ix (ixT K) (pv 4) pe_int (fun _ _ => rfl)) pa_nil)) (pe_callB (kLen K) (by rfl) T.n_len PySem.boot_len (pa_cons (pv 2) pa_nil)) (nomark _)) (pw_or1 (pt_cmpR (op_leT hr.units0) (pe_ix (ixT K) (pv 4) pe_int (fun _ _ => rfl)) (pv 2) (nomark _))))))))
        (pss_one (ps_ret (pv 3))) pss_nil)
      (pss_one (ps_set (i := 2) sc_row_wrong.nd rfl (Or.inl rfl) (pe_ix (ixT K) (pv 4) pe_int (fun _ _ => rfl)))))))
    (pss_one (ps_ret pe_non)))), ?_⟩
  refine set0 K ev_non fun v2 H1 x1 r2 => ?_
  replace r0 := x1.rp r0
  replace r1 := x1.rp r1
  refine for_then (W := W0) trivial (src_enT (ev_var rfl r1)) (fun i σ H => ∃ (last : Option (List Int)) (vl : V) (o3 o4 : Option V), σ = [some v0, some v1, some vl, o3, o4] ∧ Rp K H (match last with | none => .none | some ns => .tuple (ns.map .int)) vl ∧ rwGo (p - 1) last i (rs.drop i) = rwGo (p - 1) none 0 rs)
    (fun H2 x2 => ⟨none, v2, none, none, rfl, x2.rp r2, rfl⟩) (fun i d σ1 H2 H3 x N hi x2 hI x3 hx hN => ?_) fun σ1 H2 x2 ⟨last, vl, o3, o4, e1, rl, e2⟩ => ?_
  · obtain ⟨last, vl, o3, o4, e1, rl, e2⟩ := hI
    subst e1
    obtain ⟨c, hc, e3⟩ : ∃ c, rs[i]? = some c ∧ d = .tuple [.int (i : Nat), c] := by
      have hl : i < rs.length := by
        rw [← numD_len rs]
        exact (List.getElem?_eq_some_iff.mp hi).1
      unfold numD at hi
      rw [List.getElem?_zipWith, List.getElem?_range hl, List.getElem?_eq_getElem hl] at hi
      cases hi
      exact ⟨_, List.getElem?_eq_getElem hl, rfl⟩
    subst e3
    have dr : rs.drop i = c :: rs.drop (i + 1) := by
      obtain ⟨hl, e⟩ := List.getElem?_eq_some_iff.mp hc
      rw [List.drop_eq_getElem_cons hl, e]
    rw [dr] at e2
    have e2' : (if (rowB (p - 1) c && okKey last (keyOf c)) = true then rwGo (p - 1) (some (keyOf c)) (i + 1) (rs.drop (i + 1)) else .int (i : Nat)) = rwGo (p - 1) none 0 rs := e2
    refine g_pair hx fun a b r3 r4 => ?_
    replace r0 := (x2.trans x3).rp r0
    replace rl := x3.rp rl
    refine if0 (et_not (et_B (ev_call (ea_cons (ev_var rfl r0) (ea_cons (ev_var rfl r4) ea_nil)) ⟨_, _, rfl, rfl⟩))) (fun hb H4 x4 => ?_) fun hb H4 x4 => ?_
    · refine ret0 kk (((x1.trans x2).trans x3).trans x4) (ev_var rfl (x4.rp r3)) ?_
      rw [Bool.not_eq_true'] at hb
      rw [← e2', hb]
      rfl
    · rw [Bool.not_eq_false'] at hb
      rw [hb, Bool.true_and] at e2'
      obtain ⟨ns, n, e4, _⟩ := rowB_some hb
      subst e4
      rw [keyOf_row] at e2'
      replace r3 := x4.rp r3
      replace r4 := x4.rp r4
      replace rl := x4.rp rl
      have hk : EvT W0 (tAnd (tTest (tOp (fun x y H Q => y = .non ∧ Q (.bl (!decide (x = .non))) H) (tVar 2) (tC .non))) (tOr (tTest (tOp rNe (tCB (fun xs H Q => ∃ x n, xs = [x] ∧ LenV K x H n ∧ Q (.int n) H) (tCons (tOp (rIxT K) (tVar 4) (tC (.int 0))) tNil)) (tCB (fun xs H Q => ∃ x n, xs = [x] ∧ LenV K x H n ∧ Q (.int n) H) (tCons (tVar 2) tNil)))) (tTest (tOp (rLeT K) (tOp (rIxT K) (tVar 4) (tC (.int 0))) (tVar 2))))) [some v0, some v1, some vl, some a, some b] H4 (!okKey last ns) := by
        cases last with
        | none => exact et_is (et_and (b := false) (et_of (ev_notN (ev_var rfl rl) ev_non)) fun h => (Bool.false_ne_true h).elim) rfl
        | some l =>
          refine et_is (et_and (et_of (ev_notN (ev_var rfl rl) ev_non)) fun _ => (et_or (et_of (ev_neI (ev_len (es_of_t (ev_at (j := 0) (ev_var rfl r4) rfl))) (ev_len (es_of_t (ev_var rfl rl))))) fun _ => (et_of (ev_leT (ev_at (j := 0) (ev_var rfl r4) rfl) (ev_var rfl rl))))) ?_
          show (true && (!decide (((ns.map PyData.int).length : Int) = ((l.map PyData.int).length : Int)) || !HT.lexLt l ns)) = !(decide (ns.length = l.length) && HT.lexLt l ns)
          rw [List.length_map, List.length_map, Bool.true_and, Bool.not_and]
          congr 2
          exact decide_eq_decide.mpr Int.ofNat_inj
      refine if0 hk (fun hb2 H5 x5 => ?_) fun hb2 H5 x5 => ?_
      · refine ret0 kk ((((x1.trans x2).trans x3).trans x4).trans x5) (ev_var rfl (x5.rp r3)) ?_
        rw [Bool.not_eq_true'] at hb2
        rw [← e2', hb2]
        rfl
      · rw [Bool.not_eq_false'] at hb2
        rw [hb2, if_pos rfl] at e2'
        refine setl0 K (ev_at (j := 0) (ev_var rfl (x5.rp r4)) rfl) fun v H6 x6 r6 => hN _ _ ((x4.trans x5).trans x6) ⟨some ns, v, some a, some b, rfl, r6, e2'⟩
  · subst e1
    rw [numD_len, List.drop_length] at e2
    exact ret0 kk (x1.trans x2) ev_non e2
theorem cd_is_chain (T : Tx K mg) : Cd P w K mg base CX0 6 "is_chain" (SpD K (fun ds r => ∃ p rs, ds = [.int p, .tuple rs] ∧ r = .bool (chainB (p - 1) rs))) := by
  refine cd_of (k := 5) T.d_is_chain sc_is_chain (fun _ _ _ _ _ _ us hl => match us, hl with | [_, _], _ => rfl) (SpD.len fun ds r h => by obtain ⟨_, _, e, _⟩ := h; rw [e]; rfl) ?_
  intro f cdv A outer s H vs Q E hr ⟨ds, r, hds, hf, kk⟩
  obtain ⟨p, rs, e1, e2⟩ := hf
  subst e1 e2
  obtain ⟨v0, v1, e, r0, r1⟩ := rps2 hds
  subst e
  refine ⟨_, (pss_one (ps_ret (pe_and (pe_callB (kIsi K) (by rfl) T.n_isinstance (by decide +kernel) (pa_cons (pv 1) (pa_cons (pe_bltn (v := .ty "tuple") (u := .type "tuple") (by rfl) T.n_tuple (by decide +kernel) rfl) pa_nil))) (pe_one (pe_cmpR op_isN (pe_d (cd_row_wrong T) hr (by decide) (pa_cons (pv 0) (pa_cons (pv 1) pa_nil))) pe_non (nomark _)))))), ?_⟩
  refine ret0 kk x0 (ev_and (ev_isTup (ev_var rfl r1)) fun _ => (ev_isN (ev_call (ea_cons (ev_var rfl r0) (ea_cons (ev_var rfl r1) ea_nil)) ⟨_, _, rfl, rfl⟩) ev_non)) ?_
  rw [rwGo_none]
  rfl
end
end Fd
-- Ev4
namespace Fd
open PySem PySem.Spec PyProof.Rows L2
/-! ### against the empty -/
def rEq0 (K : PySem.W.Frag) (neg : Bool) : R2 := fun x y H Q => ∃ a b xs, x = .ref a ∧ y = .ref b ∧ ((SqT K H a xs ∧ SqT K H b []) ∨ (SqL K H a xs ∧ SqL K H b [])) ∧ Q (.bl (if neg then !decide (xs.length = 0) else decide (xs.length = 0))) H
section
variable {X : Cx}
theorem op_eq0 (hu : X.A.units < cLine) : OpR X (compareOp .Eq) (rEq0 X.K false) := by
  intro pins s σ H x y v u Q I rx ry h
  obtain ⟨a, b, xs, ex, ey, hq, q⟩ := h
  subst ex ey
  cases rx
  cases ry
  rcases hq with ⟨ha, hb⟩ | ⟨ha, hb⟩
  · obtain ⟨its, r1, p1, _⟩ := I.tuple ha
    obtain ⟨its2, r2, p2, _⟩ := I.tuple hb
    cases r2
    have R := SeqAt.RcAt.tuples (e := fun _ => true) p1 p2 hu (fun j h1 h2 => absurd h2 (Nat.not_lt_zero _))
    have e : ((List.range (min its.toArray.size ([] : List Value).toArray.size)).all (fun _ => true) && its.toArray.size == ([] : List Value).toArray.size) = decide (xs.length = 0) := by
      rw [r1.length]
      simp only [List.size_toArray, List.length_nil, Nat.min_zero, List.range_zero, List.all_nil, Bool.true_and]
      exact (Bool.beq_eq_decide_eq _ _)
    rw [e] at R
    exact R X.prog X.w X.xe (EP X pins σ Q) ⟨.bl _, H, I, rfl, q⟩
  · obtain ⟨its, r1, ⟨o, n, p1, p2, _, p3⟩, _⟩ := I.list ha
    obtain ⟨its2, r2, ⟨o2, n2, p4, p5, _, p6⟩, _⟩ := I.list hb
    cases r2
    have l1 : s.heap.IsList a its.toArray := ⟨o, p1, p2, n, p3⟩
    have l2 : s.heap.IsList b ([] : List Value).toArray := ⟨o2, p4, p5, n2, p6⟩
    cases its with
    | nil =>
      have : xs.length = 0 := by rw [r1.length]; rfl
      have R := SeqAt.RcAt.lists (e := fun _ => true) l1 l2 rfl hu (fun j h1 h2 => absurd h2 (Nat.not_lt_zero _))
      rw [if_neg (by decide), decide_eq_true this] at q
      exact R X.prog X.w X.xe (EP X pins σ Q) ⟨.bl _, H, I, rfl, q⟩
    | cons z zs =>
      have : ¬ xs.length = 0 := by rw [r1.length, List.length_cons]; omega
      have R := SeqAt.RcAt.lists_lengths l1 l2 (by simp) hu
      rw [if_neg (by decide), decide_eq_false this] at q
      exact R X.prog X.w X.xe (EP X pins σ Q) ⟨.bl _, H, I, rfl, q⟩
theorem op_ne0 (hu : X.A.units < cLine) : OpR X (compareOp .NotEq) (rEq0 X.K true) := by
  intro pins s σ H x y v u Q I rx ry h
  obtain ⟨a, b, xs, ex, ey, hq, q⟩ := h
  subst ex ey
  cases rx
  cases ry
  rcases hq with ⟨ha, hb⟩ | ⟨ha, hb⟩
  · obtain ⟨its, r1, p1, _⟩ := I.tuple ha
    obtain ⟨its2, r2, p2, _⟩ := I.tuple hb
    cases r2
    have R := SeqAt.RcNeAt.tuples (e := fun _ => true) p1 p2 hu (fun j h1 h2 => absurd h2 (Nat.not_lt_zero _))
    have e : (!((List.range (min its.toArray.size ([] : List Value).toArray.size)).all (fun _ => true) && its.toArray.size == ([] : List Value).toArray.size)) = !decide (xs.length = 0) := by
      rw [r1.length]
      simp only [List.size_toArray, List.length_nil, Nat.min_zero, List.range_zero, List.all_nil, Bool.true_and]
      rfl
    rw [e] at R
    exact R X.prog X.w X.xe (EP X pins σ Q) ⟨.bl _, H, I, rfl, q⟩
  · obtain ⟨its, r1, ⟨o, n, p1, p2, _, p3⟩, _⟩ := I.list ha
    obtain ⟨its2, r2, ⟨o2, n2, p4, p5, _, p6⟩, _⟩ := I.list hb
    cases r2
    have l1 : s.heap.IsList a its.toArray := ⟨o, p1, p2, n, p3⟩
    have l2 : s.heap.IsList b ([] : List Value).toArray := ⟨o2, p4, p5, n2, p6⟩
    cases its with
    | nil =>
      have : xs.length = 0 := by rw [r1.length]; rfl
      have R := SeqAt.RcNeAt.lists (e := fun _ => true) l1 l2 rfl hu (fun j h1 h2 => absurd h2 (Nat.not_lt_zero _))
      rw [if_pos rfl, decide_eq_true this] at q
      exact R X.prog X.w X.xe (EP X pins σ Q) ⟨.bl _, H, I, rfl, q⟩
    | cons z zs =>
      have : ¬ xs.length = 0 := by rw [r1.length, List.length_cons]; omega
      have R := SeqAt.RcNeAt.lists_lengths l1 l2 (by simp) hu
      rw [if_pos rfl, decide_eq_false this] at q
      exact R X.prog X.w X.xe (EP X pins σ Q) ⟨.bl _, H, I, rfl, q⟩
end
section
variable {W : Wd} {K : PySem.W.Frag} {σ : L2.St} {H : Hp} {ta tb te : TE} {ds : List PyData} {neg : Bool}
theorem ev_eq0T (ha : Ev W K ta σ H (.tuple ds)) : Ev W K (tOp (rEq0 K neg) ta (tTup tNil)) σ H (.bool (if neg then !decide (ds.length = 0) else decide (ds.length = 0))) :=
  evp_op ha (ev_tup ea_nil) fun x y H jH hx hy Q k => by
    obtain ⟨a, xs, e, h1, h2⟩ := rp_tup.mp hx
    obtain ⟨b, ys, e', h1', h2'⟩ := rp_tup.mp hy
    rw [rps_nil.mp h2'] at h1'
    refine ⟨a, b, xs, e, e', .inl ⟨h1, h1'⟩, k _ H (Wx.refl jH) ?_⟩
    rw [h2.len]
    exact rp_bl.mpr rfl
theorem ev_eq0L (ha : EvP ta σ H (VP.r W K ds)) : Ev W K (tOp (rEq0 K neg) ta (tLst tNil)) σ H (.bool (if neg then !decide (ds.length = 0) else decide (ds.length = 0))) :=
  evp_op ha (el_lst (K := K) (ds := []) ea_nil) fun x y H jH ⟨a, xs, e, h1, h2⟩ ⟨b, ys, e', h1', _, h2'⟩ Q k => by
    rw [rps_nil.mp h2'] at h1'
    refine ⟨a, b, xs, e, e', .inr ⟨h1.1, SqL.of h1'⟩, k _ H (Wx.refl jH) ?_⟩
    rw [h2.len]
    exact rp_bl.mpr rfl
end
end Fd
-- D3
namespace Fd
open PySem PySem.Spec PyProof.Rows L2
section
variable {W : Wd} {K : PySem.W.Frag} {σ : L2.St} {H : Hp} {te : TE} {ns : List Int}
theorem ev_rising {E : XK} (h : Ev W K te σ H (.tuple (ns.map .int))) (hl : ns.length ≤ 10000000) : Ev W K (tCall (spRising K) [] E (tCons te tNil)) σ H (.bool (rise ns)) := fun H1 x Q k =>
  h H1 x _ fun v H2 x2 hv => ⟨v, ns, rfl, hl, .inl hv, fun v' H' s r => k v' H' (x2.trans (Wx.same x2.2.1 s)) r⟩
theorem ev_risingL {E : XK} (h : EvL W K te σ H (ns.map .int)) (hl : ns.length ≤ 10000000) : Ev W K (tCall (spRising K) [] E (tCons te tNil)) σ H (.bool (rise ns)) := fun H1 x Q k =>
  h H1 x _ fun v H2 x2 ⟨p, xs, e, hp, _, hs⟩ => ⟨v, ns, rfl, hl, .inr ⟨p, e, by rw [hp, hs.of_ints]⟩, fun v' H' s r => k v' H' (x2.trans (Wx.same x2.2.1 s)) r⟩
end
/-- 1 <= len(t) <= n -/
theorem lenB (m n : Nat) {i : Int} (h : i = (n : Int)) : (decide ((1 : Int) ≤ (m : Int)) && decide ((m : Int) ≤ i)) = (decide (1 ≤ m) && decide (m ≤ n)) := by
  subst h
  congr 1
  · exact decide_eq_decide.mpr (by omega)
  · exact decide_eq_decide.mpr (by omega)
theorem lotB_tup {ds : List PyData} {m : Nat} {lo hi : Int} : lotB (.tuple ds) m lo hi = (decide (1 ≤ ds.length) && decide (ds.length ≤ m) && (ds.all (fun d => wholeB d lo hi) && rise ((intsOf ds).getD []))) := rfl
theorem great_of {lo hi : Int} {ds : List PyData} (h : ds.all (fun d => wholeB d lo hi) = true) : ∃ ns : List Int, ds = ns.map .int := by
  obtain ⟨ns, e, _⟩ := all_whole h
  exact ⟨ns, e⟩
theorem in2 (w a b : Str) : (if false = true then !inV (sc (.str w)) (List.map sc [.str a, .str b]) else inV (sc (.str w)) (List.map sc [.str a, .str b])) = (decide (w = a) || decide (w = b)) := by
  show inV (.str w) [.str a, .str b] = _
  unfold inV
  simp only [List.any_cons, List.any_nil, Bool.or_false, eqV]
  congr 1 <;> exact decide_eq_decide.mpr ⟨fun h => by cases h; rfl, fun h => by rw [h]⟩
section
variable {P : Program} {w : World} {K : PySem.W.Frag} {mg : Str → Option Value} {base : Heap}
theorem cd_is_set (T : Tx K mg) : Cd P w K mg base CX0 2 "is_set" (SpD K (fB1 setB)) := by
  refine cd_of (k := 1) T.d_is_set sc_is_set (fun _ _ _ _ _ _ us hl => match us, hl with | [_], _ => rfl) (SpD.len fun ds r h => by obtain ⟨_, e, _⟩ := h; rw [e]; rfl) ?_
  intro f cdv A outer s H vs Q E hr ⟨ds, r, hds, hf, kk⟩
  obtain ⟨d, e1, e2⟩ := hf
  subst e1 e2
  obtain ⟨v0, e, r0⟩ := rps1 hds
  subst e
  refine ⟨_, (pss_cons (ps_if (PW.pt (pw_or (pt_not (pt_val (pe_callB (kIsi K) (by rfl) T.n_isinstance (by decide +kernel) (pa_cons (pv 0) (pa_cons (pe_bltn (v := .ty "tuple") (u := .type "tuple") (by rfl) T.n_tuple (by decide +kernel) rfl) pa_nil))))) (pw_or1 (pt_not (pt_chain op_le op_le pe_int (pe_callB (kLen K) (by rfl) T.n_len PySem.boot_len (pa_cons (pv 0) pa_nil)) (pe_k T.k_MOST_IN_SET))))))
      (pss_one (ps_ret pe_bl)) pss_nil)
    (pss_one (ps_ret (pe_and (pe_callB (cr_all rfl) (by rfl) T.n_all (by decide +kernel) (pa_cons (pe_lc (own := [("number", 1)]) rfl sc_is_set.nd (pi_tup (pv 0)) (blkOk_by (N := N_is_set) (sc := defScope s_is_set) (by decide +kernel)) (fun _ _ _ _ _ => (pg_name (i := 1) sc_is_set.nd rfl (Or.inl rfl))) (fun _ _ _ _ _ => pts_nil) (fun _ _ _ _ _ => (pe_d (cd_whole T) hr (by decide) (pa_cons (pv 1) (pa_cons pe_int (pa_cons (pe_k T.k_LAST_IN_SET) pa_nil)))))) pa_nil)) (pe_one (pe_d (cd_are_rising T) hr (by decide) (pa_cons (pv 0) pa_nil))))))), ?_⟩
  rcases tupCases d with ⟨ds, e⟩ | hd
  · subst e
    refine if0 (et_or (et_not (et_B (ev_isTup (ev_var rfl r0)))) fun _ => (et_not (et_of (ev_chain ev_int (ev_len (es_of_t (ev_var rfl r0))) rv_B0 (fun _ => ev_int) rv_B0)))) (fun hb H1 x1 => ?_) fun hb H1 x1 => ?_
    · rw [lenB _ 7 (i := 7) rfl] at hb
      refine ret0 kk x1 ev_bl ?_
      have hb' : (decide (1 ≤ ds.length) && decide (ds.length ≤ 7)) = false := by
        simpa only [isTup, Bool.not_true, Bool.false_or, Bool.not_eq_true'] using hb
      show _ = PyData.bool (decide (1 ≤ ds.length) && decide (ds.length ≤ 7) && _)
      rw [hb', Bool.false_and]
    · rw [lenB _ 7 (i := 7) rfl] at hb
      have hb' : (decide (1 ≤ ds.length) && decide (ds.length ≤ 7)) = true := by
        simpa only [isTup, Bool.not_true, Bool.false_or, Bool.not_eq_false'] using hb
      have hl : ds.length ≤ 10000000 := by
        simp only [Bool.and_eq_true, decide_eq_true_eq] at hb'
        omega
      replace r0 := x1.rp r0
      refine ret0 kk x1 (ev_and (b := rise ((intsOf ds).getD [])) (ev_allT (ev_var rfl r0) hl (fB := fun d => wholeB d 1 19) fun d _ H2 x x2 r => ev_call (ea_cons (ev_var rfl r) (ea_cons ev_int (ea_cons ev_int ea_nil))) ⟨_, _, _, rfl, rfl⟩) fun h => ?_) ?_
      · obtain ⟨ns, e⟩ := great_of h
        subst e
        rw [intsOf_map, Option.getD_some]
        exact ev_rising (ev_var rfl r0) (by rw [List.length_map] at hl; exact hl)
      · show _ = PyData.bool (decide (1 ≤ ds.length) && decide (ds.length ≤ 7) && _)
        rw [hb', Bool.true_and]
  · refine if0 (et_or (b := false) (et_not (et_B (ev_isTup (ev_var rfl r0)))) fun h => by rw [hd] at h; cases h) (fun hb H1 x1 => ?_) fun hb H1 x1 => ?_
    · refine ret0 kk x1 ev_bl ?_
      cases d with
      | tuple ds => cases hd
      | _ => rfl
    · rw [hd] at hb
      cases hb
theorem cd_is_pair (T : Tx K mg) : Cd P w K mg base CX0 3 "is_pair" (SpD K (fB1 tieB)) := by
  refine cd_of (k := 2) T.d_is_pair sc_is_pair (fun _ _ _ _ _ _ us hl => match us, hl with | [_], _ => rfl) (SpD.len fun ds r h => by obtain ⟨_, e, _⟩ := h; rw [e]; rfl) ?_
  intro f cdv A outer s H vs Q E hr ⟨ds, r, hds, hf, kk⟩
  obtain ⟨d, e1, e2⟩ := hf
  subst e1 e2
  obtain ⟨v0, e, r0⟩ := rps1 hds
  subst e
  refine ⟨_, (pss_one (ps_ret (pe_and (pe_callB (kIsi K) (by rfl) T.n_isinstance (by decide +kernel) (pa_cons (pv 0) (pa_cons (pe_bltn (v := .ty "tuple") (u := .type "tuple") (by rfl) T.n_tuple (by decide +kernel) rfl) pa_nil))) (pe_and (pe_cmpR op_eq (pe_callB (kLen K) (by rfl) T.n_len PySem.boot_len (pa_cons (pv 0) pa_nil)) pe_int (nomark _)) (pe_and (pe_d (cd_is_number T) hr (by decide) (pa_cons (pe_ix (ixT K) (pv 0) pe_int (fun _ _ => rfl)) pa_nil)) (pe_one (pe_d (cd_is_number T) hr (by decide) (pa_cons (pe_ix (ixT K) (pv 0) pe_int (fun _ _ => rfl)) pa_nil)))))))), ?_⟩
  rcases tupCases d with ⟨ds, e⟩ | hd
  · subst e
    match ds with
    | [a, b] =>
      refine ret0 kk x0 (ev_and (ev_isTup (ev_var rfl r0)) fun _ => (ev_and (ev_eqI (ev_len (es_of_t (ev_var rfl r0))) ev_int) fun _ => (ev_and (ev_call (ea_cons (ev_at (j := 0) (ev_var rfl r0) rfl) ea_nil) ⟨_, rfl, rfl⟩) fun _ => (ev_call (ea_cons (ev_at (j := 1) (ev_var rfl r0) rfl) ea_nil) ⟨_, rfl, rfl⟩)))) ?_
      rfl
    | [] => exact ret0 kk x0 (ev_and (ev_isTup (ev_var rfl r0)) fun _ => (ev_and (b := false) (ev_eqI (ev_len (es_of_t (ev_var rfl r0))) ev_int) fun h => (Bool.false_ne_true h).elim)) rfl
    | [a] => exact ret0 kk x0 (ev_and (ev_isTup (ev_var rfl r0)) fun _ => (ev_and (b := false) (ev_eqI (ev_len (es_of_t (ev_var rfl r0))) ev_int) fun h => (Bool.false_ne_true h).elim)) rfl
    | a :: b :: c :: l =>
      have hn : ((((a :: b :: c :: l).length : Nat) : Int) = 2) ↔ False := by
        rw [List.length_cons, List.length_cons, List.length_cons]
        exact ⟨fun h => by omega, False.elim⟩
      refine ret0 kk x0 (ev_and (ev_isTup (ev_var rfl r0)) fun _ => (ev_and (b := false) (ev_eqI (ev_len (es_of_t (ev_var rfl r0))) ev_int) fun h => by rw [decide_eq_true_eq, hn] at h; exact h.elim)) ?_
      rw [Bool.and_false, Bool.and_false]
      rfl
  · refine ret0 kk x0 (ev_and (b := false) (ev_isTup (ev_var rfl r0)) fun h => by rw [hd] at h; cases h) ?_
    rw [Bool.and_false]
    cases d with
    | tuple ds => cases hd
    | _ => rfl
theorem cd_are_pairs (T : Tx K mg) : Cd P w K mg base CX0 4 "are_pairs" (SpD K (fun ds r => ∃ xs, ds = [.tuple xs] ∧ r = .bool (tiesB xs))) := by
  refine cd_of (k := 3) T.d_are_pairs sc_are_pairs (fun _ _ _ _ _ _ us hl => match us, hl with | [_], _ => rfl) (SpD.len fun ds r h => by obtain ⟨_, e, _⟩ := h; rw [e]; rfl) ?_
  intro f cdv A outer s H vs Q E hr ⟨ds, r, hds, hf, kk⟩
  obtain ⟨xs, e1, e2⟩ := hf
  subst e1 e2
  obtain ⟨v0, e, r0⟩ := rps1 hds
  subst e
  refine ⟨_, (pss_cons (ps_if (PW.pt (pw_or (pt_cmpR op_gt (pe_callB (kLen K) (by rfl) T.n_len PySem.boot_len (pa_cons (pv 0) pa_nil)) (pe_k T.k_MOST_PAIRS) (nomark _)) (pw_or1 (pt_not (pt_val (pe_callB (cr_all rfl) (by rfl) T.n_all (by decide +kernel) (pa_cons (pe_lc (own := [("thing", 1)]) rfl sc_are_pairs.nd (pi_tup (pv 0)) (blkOk_by (N := N_are_pairs) (sc := defScope s_are_pairs) (by decide +kernel)) (fun _ _ _ _ _ => (pg_name (i := 1) sc_are_pairs.nd rfl (Or.inl rfl))) (fun _ _ _ _ _ => pts_nil) (fun _ _ _ _ _ => (pe_d (cd_is_pair T) hr (by decide) (pa_cons (pv 1) pa_nil)))) pa_nil)))))))
      (pss_one (ps_ret pe_bl)) pss_nil)
    (pss_one (ps_ret (pe_d (cd_are_rising T) hr (by decide) (pa_cons (pe_lc (own := [("thing", 1)]) rfl sc_are_pairs.nd (pi_tup (pv 0)) (blkOk_by (N := N_are_pairs) (sc := defScope s_are_pairs) (by decide +kernel)) (fun _ _ _ _ _ => (pg_name (i := 1) sc_are_pairs.nd rfl (Or.inl rfl))) (fun _ _ _ _ _ => pts_nil) (fun _ _ _ _ _ => (pe_ix (ixT K) (pv 1) pe_int (fun _ _ => rfl)))) pa_nil))))), ?_⟩
  refine if0 (et_or (b := !xs.all tieB) (et_of (ev_opB0 (ev_len (es_of_t (ev_var rfl r0))) ev_int)) fun h => (et_not (et_B (ev_allT (ev_var rfl r0) (by rw [decide_eq_false_iff_not] at h; omega) (fB := tieB) fun d _ H2 x x2 r => ev_call (ea_cons (ev_var rfl r) ea_nil) ⟨_, rfl, rfl⟩)))) (fun hb H1 x1 => ?_) fun hb H1 x1 => ?_
  · refine ret0 kk x1 ev_bl ?_
    unfold tiesB
    rw [hb]
    rfl
  · have hl : xs.length ≤ 10000000 := by
      rw [Bool.or_eq_false_iff, decide_eq_false_iff_not] at hb
      omega
    have ha : xs.all tieB = true := by
      rw [Bool.or_eq_false_iff, Bool.not_eq_false'] at hb
      exact hb.2
    replace r0 := x1.rp r0
    have e : (xs.map fstI).map PyData.int = xs.map (fun d => PyData.int (fstI d)) := by rw [List.map_map]; rfl
    refine ret0 kk x1 (ev_risingL (ns := xs.map fstI) (e ▸ (el_map (fo := fun d => .int (fstI d)) (src_tup (ev_var rfl r0)) hl fun d hd => lcs_name fun H2 x x2 r => by
      obtain ⟨a, b, e, _⟩ := tieB_some (List.all_eq_true.mp ha d hd)
      subst e
      exact ev_at (j := 0) (ev_var rfl r) rfl)) (by rw [List.length_map]; exact hl)) ?_
    unfold tiesB
    rw [hb]
    rfl
theorem cd_is_crowd (T : Tx K mg) : Cd P w K mg base CX0 3 "is_crowd" (SpD K (fun ds r => ∃ w xs, ds = [.tuple (.str w :: xs)] ∧ r = .bool (crowdB (.str w :: xs)))) := by
  refine cd_of (k := 2) T.d_is_crowd sc_is_crowd (fun _ _ _ _ _ _ us hl => match us, hl with | [_], _ => rfl) (SpD.len fun ds r h => by obtain ⟨_, _, e, _⟩ := h; rw [e]; rfl) ?_
  intro f cdv A outer s H vs Q E hr ⟨ds, r, hds, hf, kk⟩
  obtain ⟨w, xs, e1, e2⟩ := hf
  subst e1 e2
  obtain ⟨v0, e, r0⟩ := rps1 hds
  subst e
  refine ⟨_, (pss_cons (ps_if (PW.pt (pw_or (pt_cmpR op_ne (pe_callB (kLen K) (by rfl) T.n_len PySem.boot_len (pa_cons (pv 0) pa_nil)) pe_int (nomark _)) (pw_or (pt_not (pt_val (pe_d (cd_whole T) hr (by decide) (pa_cons (pe_ix (ixT K) (pv 0) pe_int (fun _ _ => rfl)) (pa_cons pe_int (pa_cons pe_int pa_nil)))))) (pw_or1 (pt_not (pt_val (pe_callB (kIsi K) (by rfl) T.n_isinstance (by decide +kernel) (pa_cons (pe_ix (ixT K) (pv 0) pe_int (fun _ _ => rfl)) (pa_cons (pe_bltn (v := .ty "tuple") (u := .type "tuple") (by rfl) T.n_tuple (by decide +kernel) rfl) pa_nil)))))))))
      (pss_one (ps_ret pe_bl)) pss_nil)
    (pss_cons (ps_if (PW.pt (pw_or (pt_not (pt_chain op_le op_le pe_int (pe_callB (kLen K) (by rfl) T.n_len PySem.boot_len (pa_cons (pe_ix (ixT K) (pv 0) pe_int (fun _ _ => rfl)) pa_nil)) (pe_k T.k_MOST_PAIRS))) (pw_or1 (pt_not (pt_val (pe_callB (cr_all rfl) (by rfl) T.n_all (by decide +kernel) (pa_cons (pe_lc (own := [("index", 1)]) rfl sc_is_crowd.nd (pi_tup (pe_ix (ixT K) (pv 0) pe_int (fun _ _ => rfl))) (blkOk_by (N := N_is_crowd) (sc := defScope s_is_crowd) (by decide +kernel)) (fun _ _ _ _ _ => (pg_name (i := 1) sc_is_crowd.nd rfl (Or.inl rfl))) (fun _ _ _ _ _ => pts_nil) (fun _ _ _ _ _ => (pe_d (cd_is_number T) hr (by decide) (pa_cons (pv 1) pa_nil)))) pa_nil)))))))
      (pss_one (ps_ret pe_bl)) pss_nil)
    (pss_one (ps_ret (pe_d (cd_are_rising T) hr (by decide) (pa_cons (pe_ix (ixT K) (pv 0) pe_int (fun _ _ => rfl)) pa_nil)))))), ?_⟩
  match xs with
  | [] => exact if0 (et_or (b := false) (et_of (ev_neI (ev_len (es_of_t (ev_var rfl r0))) ev_int)) fun h => by cases h) (fun hb H1 x1 => ret0 kk x1 ev_bl rfl) fun hb => by cases hb
  | [a] => exact if0 (et_or (b := false) (et_of (ev_neI (ev_len (es_of_t (ev_var rfl r0))) ev_int)) fun h => by cases h) (fun hb H1 x1 => ret0 kk x1 ev_bl rfl) fun hb => by cases hb
  | a :: b :: c :: l =>
    have hn : ((((PyData.str w :: a :: b :: c :: l).length : Nat) : Int) = 3) ↔ False := by
      rw [List.length_cons, List.length_cons, List.length_cons, List.length_cons]
      exact ⟨fun h => by omega, False.elim⟩
    have hd : decide ((((PyData.str w :: a :: b :: c :: l).length : Nat) : Int) = 3) = false := decide_eq_false fun z => hn.mp z
    refine if0 (et_or (b := false) (et_of (ev_neI (ev_len (es_of_t (ev_var rfl r0))) ev_int)) fun h => by rw [hd] at h; cases h) (fun hb H1 x1 => ret0 kk x1 ev_bl rfl) fun hb => by rw [hd] at hb; cases hb
  | [a, b] =>
    refine if0 (et_or (b := !wholeB a 0 1 || !isTup b) (et_of (ev_neI (ev_len (es_of_t (ev_var rfl r0))) ev_int)) fun _ => (et_or (et_not (et_B (ev_call (ea_cons (ev_at (j := 1) (ev_var rfl r0) rfl) (ea_cons ev_int (ea_cons ev_int ea_nil))) ⟨_, _, _, rfl, rfl⟩))) fun _ => (et_not (et_B (ev_isTup (ev_at (j := 2) (ev_var rfl r0) rfl)))))) (fun hb H1 x1 => ?_) fun hb H1 x1 => ?_
    · refine ret0 kk x1 ev_bl ?_
      have hb' : (!wholeB a 0 1 || !isTup b) = true := hb
      show _ = PyData.bool (wholeB a 0 1 && lotB b 80 0 HI)
      cases h : wholeB a 0 1 with
      | false => rfl
      | true =>
        rw [h] at hb'
        cases b with
        | tuple ds => cases hb'
        | _ => rfl
    · have hb' : (!wholeB a 0 1 || !isTup b) = false := hb
      have ha : wholeB a 0 1 = true := by
        rw [Bool.or_eq_false_iff, Bool.not_eq_false'] at hb'
        exact hb'.1
      rcases tupCases b with ⟨ds, e⟩ | hd
      · subst e
        replace r0 := x1.rp r0
        refine if0 (et_or (b := !ds.all greatB) (et_not (et_of (ev_chain ev_int (ev_len (es_of_t (ev_at (j := 2) (ev_var rfl r0) rfl))) rv_B0 (fun _ => ev_int) rv_B0))) fun h => (et_not (et_B (ev_allT (ev_at (j := 2) (ev_var rfl r0) rfl) (by rw [Bool.not_eq_false', Bool.and_eq_true, decide_eq_true_eq, decide_eq_true_eq] at h; omega) (fB := greatB) fun d _ H2 x x2 r => ev_call (ea_cons (ev_var rfl r) ea_nil) ⟨_, rfl, rfl⟩)))) (fun hb H2 x2 => ?_) fun hb H2 x2 => ?_
        · refine ret0 kk (x1.trans x2) ev_bl ?_
          rw [lenB _ 80 (i := 80) rfl] at hb
          show _ = PyData.bool (wholeB a 0 1 && (decide (1 ≤ ds.length) && decide (ds.length ≤ 80) && (ds.all (fun d => wholeB d 0 HI) && rise ((intsOf ds).getD []))))
          rw [ha, Bool.true_and]
          have e : ds.all (fun d => wholeB d 0 HI) = ds.all greatB := rfl
          rw [e]
          cases h1 : (decide (1 ≤ ds.length) && decide (ds.length ≤ 80)) with
          | false => rfl
          | true =>
            rw [h1, Bool.not_true, Bool.false_or, Bool.not_eq_true'] at hb
            rw [hb]
            rfl
        · rw [lenB _ 80 (i := 80) rfl] at hb
          rw [Bool.or_eq_false_iff, Bool.not_eq_false', Bool.not_eq_false'] at hb
          obtain ⟨ns, e⟩ := great_of (lo := 0) (hi := HI) hb.2
          subst e
          refine ret0 kk (x1.trans x2) (ev_rising (ev_at (j := 2) (ev_var rfl (x2.rp r0)) rfl) (by
            have := hb.1
            rw [Bool.and_eq_true, decide_eq_true_eq, decide_eq_true_eq, List.length_map] at this
            omega)) ?_
          show _ = PyData.bool (wholeB a 0 1 && (decide (1 ≤ (ns.map PyData.int).length) && decide ((ns.map PyData.int).length ≤ 80) && ((ns.map PyData.int).all greatB && rise ((intsOf (ns.map PyData.int)).getD []))))
          rw [ha, hb.1, hb.2, intsOf_map]
          rfl
      · rw [hd, Bool.not_false, Bool.or_true] at hb'
        cases hb'
theorem cd_is_paper (T : Tx K mg) : Cd P w K mg base CX0 7 "is_paper" (SpD K (fB1 paperB)) := by
  refine cd_of (k := 6) T.d_is_paper sc_is_paper (fun _ _ _ _ _ _ us hl => match us, hl with | [_], _ => rfl) (SpD.len fun ds r h => by obtain ⟨_, e, _⟩ := h; rw [e]; rfl) ?_
  intro f cdv A outer s H vs Q E hr ⟨ds, r, hds, hf, kk⟩
  obtain ⟨d, e1, e2⟩ := hf
  subst e1 e2
  obtain ⟨v0, e, r0⟩ := rps1 hds
  subst e
  obtain ⟨ach, kch, hch⟩ := T.k_CHAINS
  refine ⟨_, (pss_cons (ps_if (PW.pt (pw_or (pt_not (pt_val (pe_callB (kIsi K) (by rfl) T.n_isinstance (by decide +kernel) (pa_cons (pv 0) (pa_cons (pe_bltn (v := .ty "tuple") (u := .type "tuple") (by rfl) T.n_tuple (by decide +kernel) rfl) pa_nil))))) (pw_or (pt_cmpR (op_eq0 hr.units0) (pv 0) (pe_tup pa_nil) (nomark _)) (pw_or1 (pt_not (pt_val (pe_callB (kIsi K) (by rfl) T.n_isinstance (by decide +kernel) (pa_cons (pe_ix (ixT K) (pv 0) pe_int (fun _ _ => rfl)) (pa_cons (pe_bltn (v := .ty "str") (u := .type "str") (by rfl) T.n_str (by decide +kernel) rfl) pa_nil)))))))))
      (pss_one (ps_ret pe_bl)) pss_nil)
    (pss_cons (ps_if (pt_cmpR op_eq (pe_ix (ixT K) (pv 0) pe_int (fun _ _ => rfl)) pe_str (nomark _))
      (pss_one (ps_ret (pe_d (cd_is_crowd T) hr (by decide) (pa_cons (pv 0) pa_nil)))) pss_nil)
    (pss_cons (ps_if (PW.pt (pw_or (pt_cmpR op_ne (pe_callB (kLen K) (by rfl) T.n_len PySem.boot_len (pa_cons (pv 0) pa_nil)) pe_int (nomark _)) (pw_or1 (pt_not (pt_val (pe_callB (kIsi K) (by rfl) T.n_isinstance (by decide +kernel) (pa_cons (pe_ix (ixT K) (pv 0) pe_int (fun _ _ => rfl)) (pa_cons (pe_bltn (v := .ty "tuple") (u := .type "tuple") (by rfl) T.n_tuple (by decide +kernel) rfl) pa_nil))))))))
      (pss_one (ps_ret pe_bl)) pss_nil)
    (pss_cons (ps_if (pt_cmpR (kIn K) (pe_ix (ixT K) (pv 0) pe_int (fun _ _ => rfl)) (pe_k kch) (by first | exact nomark _ | rfl))
      (pss_one (ps_ret (pe_and (pe_cmpR op_le (pe_callB (kLen K) (by rfl) T.n_len PySem.boot_len (pa_cons (pe_ix (ixT K) (pv 0) pe_int (fun _ _ => rfl)) pa_nil)) (pe_k T.k_MOST_ROWS) (nomark _)) (pe_one (pe_d (cd_is_chain T) hr (by decide) (pa_cons (pe_k T.k_GREATEST_FIELD) (pa_cons (pe_ix (ixT K) (pv 0) pe_int (fun _ _ => rfl)) pa_nil))))))) pss_nil)
    (pss_cons (ps_if (pt_cmpR op_eq (pe_ix (ixT K) (pv 0) pe_int (fun _ _ => rfl)) pe_str (nomark _))
      (pss_one (ps_ret (pe_d (cd_are_pairs T) hr (by decide) (pa_cons (pe_ix (ixT K) (pv 0) pe_int (fun _ _ => rfl)) pa_nil)))) pss_nil)
    (pss_cons (ps_if (pt_cmpR op_eq (pe_ix (ixT K) (pv 0) pe_int (fun _ _ => rfl)) pe_str (nomark _))
      (pss_one (ps_ret (pe_and (pe_cmpR op_le (pe_callB (kLen K) (by rfl) T.n_len PySem.boot_len (pa_cons (pe_ix (ixT K) (pv 0) pe_int (fun _ _ => rfl)) pa_nil)) (pe_k T.k_MOST_SETS) (nomark _)) (pe_one (pe_callB (cr_all rfl) (by rfl) T.n_all (by decide +kernel) (pa_cons (pe_lc (own := [("one", 1)]) rfl sc_is_paper.nd (pi_tup (pe_ix (ixT K) (pv 0) pe_int (fun _ _ => rfl))) (blkOk_by (N := N_is_paper) (sc := defScope s_is_paper) (by decide +kernel)) (fun _ _ _ _ _ => (pg_name (i := 1) sc_is_paper.nd rfl (Or.inl rfl))) (fun _ _ _ _ _ => pts_nil) (fun _ _ _ _ _ => (pe_d (cd_is_set T) hr (by decide) (pa_cons (pv 1) pa_nil)))) pa_nil)))))) pss_nil)
    (pss_one (ps_ret (pe_and (pe_cmpR op_eq (pe_ix (ixT K) (pv 0) pe_int (fun _ _ => rfl)) pe_str (nomark _)) (pe_and (pe_cmpR op_le (pe_callB (kLen K) (by rfl) T.n_len PySem.boot_len (pa_cons (pe_ix (ixT K) (pv 0) pe_int (fun _ _ => rfl)) pa_nil)) (pe_k T.k_MOST_INDICES) (nomark _)) (pe_one (pe_callB (cr_all rfl) (by rfl) T.n_all (by decide +kernel) (pa_cons (pe_lc (own := [("one", 1)]) rfl sc_is_paper.nd (pi_tup (pe_ix (ixT K) (pv 0) pe_int (fun _ _ => rfl))) (blkOk_by (N := N_is_paper) (sc := defScope s_is_paper) (by decide +kernel)) (fun _ _ _ _ _ => (pg_name (i := 1) sc_is_paper.nd rfl (Or.inl rfl))) (fun _ _ _ _ _ => pts_nil) (fun _ _ _ _ _ => (pe_d (cd_is_number T) hr (by decide) (pa_cons (pv 1) pa_nil)))) pa_nil))))))))))))), ?_⟩
  rcases tupCases d with ⟨ds, e⟩ | hd
  rotate_left
  · refine if0 (et_or (b := false) (et_not (et_B (ev_isTup (ev_var rfl r0)))) fun h => by rw [hd] at h; cases h) (fun hb H1 x1 => ?_) fun hb H1 x1 => ?_
    · refine ret0 kk x1 ev_bl ?_
      cases d with
      | tuple ds => cases hd
      | _ => rfl
    · rw [hd] at hb
      cases hb
  subst e
  match ds with
  | [] =>
    exact if0 (et_or (b := true) (et_not (et_B (ev_isTup (ev_var rfl r0)))) fun h => et_is (et_or (b := false) (et_of (ev_eq0T (ev_var rfl r0))) fun h => by cases h) rfl) (fun hb H1 x1 => ret0 kk x1 ev_bl rfl) fun hb => by cases hb
  | d0 :: r =>
    refine if0 (et_or (et_not (et_B (ev_isTup (ev_var rfl r0)))) fun h => et_or (et_of (ev_eq0T (ev_var rfl r0))) fun _ => (et_not (et_B (ev_isStr (ev_at (j := 0) (ev_var rfl r0) rfl))))) (fun hb H1 x1 => ?_) fun hb H1 x1 => ?_
    · refine ret0 kk x1 ev_bl ?_
      cases d0 with
      | str w => cases hb
      | _ => rfl
    · cases d0 with
      | str w =>
        replace r0 := x1.rp r0
        refine if0 (et_of (ev_eqS (ev_at (j := 0) (ev_var rfl r0) rfl) ev_str)) (fun hb H2 x2 => ?_) fun hb2 H2 x2 => ?_
        · refine ret0 kk (x1.trans x2) (ev_call (ea_cons (ev_var rfl (x2.rp r0)) ea_nil) ⟨_, _, rfl, rfl⟩) ?_
          exact congrArg PyData.bool (if_pos (of_decide_eq_true hb)).symm
        · have nc : ¬ w = tCrowd := of_decide_eq_false hb2
          replace r0 := x2.rp r0
          match r with
          | [] =>
            refine if0 (et_or (b := false) (et_of (ev_neI (ev_len (es_of_t (ev_var rfl r0))) ev_int)) fun h => by cases h) (fun hb H3 x3 => ret0 kk ((x1.trans x2).trans x3) ev_bl ?_) fun hb => by cases hb
            exact congrArg PyData.bool (if_neg nc).symm
          | x :: y :: l =>
            have hn : ((((PyData.str w :: x :: y :: l).length : Nat) : Int) = 2) ↔ False := by
              rw [List.length_cons, List.length_cons, List.length_cons]
              exact ⟨fun h => by omega, False.elim⟩
            have hd : decide ((((PyData.str w :: x :: y :: l).length : Nat) : Int) = 2) = false := decide_eq_false fun z => hn.mp z
            refine if0 (et_or (b := false) (et_of (ev_neI (ev_len (es_of_t (ev_var rfl r0))) ev_int)) fun h => by rw [hd] at h; cases h) (fun hb H3 x3 => ret0 kk ((x1.trans x2).trans x3) ev_bl ?_) fun hb => by rw [hd] at hb; cases hb
            exact congrArg PyData.bool (show false = paperB (.tuple (.str w :: x :: y :: l)) by unfold paperB; dsimp only; rw [if_neg nc]; cases x <;> rfl)
          | [x] =>
            refine if0 (et_or (et_of (ev_neI (ev_len (es_of_t (ev_var rfl r0))) ev_int)) fun h => et_not (et_B (ev_isTup (ev_at (j := 1) (ev_var rfl r0) rfl)))) (fun hb H3 x3 => ?_) fun hb H3 x3 => ?_
            · refine ret0 kk ((x1.trans x2).trans x3) ev_bl ?_
              refine congrArg PyData.bool (show false = paperB (.tuple [.str w, x]) from ?_)
              unfold paperB
              dsimp only
              rw [if_neg nc]
              cases x with
              | tuple ds => cases hb
              | _ => rfl
            · rcases tupCases x with ⟨ds, e⟩ | hd
              rotate_left
              · rw [hd] at hb
                cases hb
              subst e
              replace r0 := x3.rp r0
              have e : paperB (.tuple [.str w, .tuple ds]) = restB w ds := if_neg nc
              rw [e] at kk
              have x13 := (x1.trans x2).trans x3
              unfold restB at kk
              refine if0 (et_is (et_of (ev_in (ev_at (j := 0) (ev_var rfl r0) rfl) (es_of_t (ev_c hch)) rfl (fun e he => by
                rcases List.mem_cons.mp he with z | he
                · subst z; rfl
                · rw [List.mem_singleton.mp he]; rfl))) (in2 w _ _)) (fun hb H4 x4 => ?_) fun hb H4 x4 => ?_
              · rw [if_pos (show (decide (w = tFill) || decide (w = tSight)) = true from hb)] at kk
                exact ret0 kk (x13.trans x4) (ev_and (ev_opB0 (ev_len (es_of_t (ev_at (j := 1) (ev_var rfl (x4.rp r0)) rfl))) ev_int) fun _ => (ev_call (ea_cons ev_int (ea_cons (ev_at (j := 1) (ev_var rfl (x4.rp r0)) rfl) ea_nil)) ⟨_, _, rfl, rfl⟩)) rfl
              · rw [if_neg (show ¬ (decide (w = tFill) || decide (w = tSight)) = true from fun z => Bool.false_ne_true (hb.symm.trans z))] at kk
                replace r0 := x4.rp r0
                refine if0 (et_of (ev_eqS (ev_at (j := 0) (ev_var rfl r0) rfl) ev_str)) (fun hb H5 x5 => ?_) fun hb H5 x5 => ?_
                · rw [if_pos (show w = tMatch from of_decide_eq_true hb)] at kk
                  exact ret0 kk ((x13.trans x4).trans x5) (ev_call (ea_cons (ev_at (j := 1) (ev_var rfl (x5.rp r0)) rfl) ea_nil) ⟨_, rfl, rfl⟩) rfl
                · rw [if_neg (show ¬ w = tMatch from of_decide_eq_false hb)] at kk
                  replace r0 := x5.rp r0
                  refine if0 (et_of (ev_eqS (ev_at (j := 0) (ev_var rfl r0) rfl) ev_str)) (fun hb H6 x6 => ?_) fun hb H6 x6 => ?_
                  · rw [if_pos (show w = tPlan from of_decide_eq_true hb)] at kk
                    exact ret0 kk (((x13.trans x4).trans x5).trans x6) (ev_and (ev_opB0 (ev_len (es_of_t (ev_at (j := 1) (ev_var rfl (x6.rp r0)) rfl))) ev_int) fun h => (ev_allT (ev_at (j := 1) (ev_var rfl (x6.rp r0)) rfl) (by rw [decide_eq_true_eq] at h; omega) (fB := setB) fun d _ H2 x x2 r => ev_call (ea_cons (ev_var rfl r) ea_nil) ⟨_, rfl, rfl⟩)) rfl
                  · rw [if_neg (show ¬ w = tPlan from of_decide_eq_false hb)] at kk
                    exact ret0 kk (((x13.trans x4).trans x5).trans x6) (ev_and (ev_eqS (ev_at (j := 0) (ev_var rfl (x6.rp r0)) rfl) ev_str) fun _ => (ev_and (ev_opB0 (ev_len (es_of_t (ev_at (j := 1) (ev_var rfl (x6.rp r0)) rfl))) ev_int) fun h => (ev_allT (ev_at (j := 1) (ev_var rfl (x6.rp r0)) rfl) (by rw [decide_eq_true_eq] at h; omega) (fB := greatB) fun d _ H2 x x2 r => ev_call (ea_cons (ev_var rfl r) ea_nil) ⟨_, rfl, rfl⟩))) rfl
      | _ => cases hb
end
end Fd
-- M3
/-! Words, in plain Lean. -/
namespace Fd
open PySem PySem.Spec PyProof.Rows L2
theorem l_comma : Str.ofString "," = S [44] := by decide +kernel
theorem l_space : Str.ofString " " = S [32] := by decide +kernel
theorem l_line : Str.ofString "\n" = S [10] := by decide +kernel
theorem l_star : Str.ofString "*" = S [42] := by decide +kernel
theorem l_dash : Str.ofString "-" = S [45] := by decide +kernel
theorem l_zero : Str.ofString "0" = S [48] := by decide +kernel
theorem l_none : Str.ofString "" = S [] := by decide +kernel
def isF (c : Nat) : Bool := decide (48 ≤ c) && decide (c ≤ 57)
theorem figs (c : Nat) : decide (c ∈ (Str.ofString "0123456789").cps.toList) = isF c := by
  have e : (Str.ofString "0123456789").cps.toList = [48, 49, 50, 51, 52, 53, 54, 55, 56, 57] := by decide +kernel
  rw [e]
  unfold isF
  rw [← Bool.decide_and]
  refine decide_eq_decide.mpr ⟨fun h => ?_, fun h => ?_⟩
  · simp only [List.mem_cons, List.not_mem_nil, or_false] at h
    omega
  · simp only [List.mem_cons, List.not_mem_nil, or_false]
    omega
/-- a number of at most twenty figures, none of them a nought ahead -/
def numB (l : List Nat) : Bool := decide (1 ≤ l.length) && decide (l.length ≤ 20) && (l.all isF && !(decide (l.head? = some 48) && !decide (l = [48])))
def numOf (l : List Nat) : Option Int := if numB l = true then some ((NumText.digitsVal l : Nat) : Int) else none
def optI : Option Int → PyData
  | some n => .int n
  | none => .none
def optL : Option (List Int) → PyData
  | some ns => .tuple (ns.map .int)
  | none => .none
def allSome : List (Option Int) → Option (List Int)
  | [] => some []
  | some n :: r => (allSome r).map (n :: ·)
  | none :: _ => none
def listOf (l : List Nat) : Option (List Int) :=
  match allSome ((TL.spl [44] 0 [] l).map numOf) with
  | some ns => if rise ns = true then some ns else none
  | none => none
def pieceOf (l : List Nat) : Option (List Int) :=
  match listOf l with
  | some ns => if lotI ns 7 0 19 = true then some ns else none
  | none => none
/-- p < the row's number < q -/
def rowOf (p : Int) (l : List Nat) : PyData :=
  match TL.par [42] [] l with
  | some (a, b) => match numOf a, pieceOf b with
    | some n, some ns => if (decide (1 ≤ n) && decide (n < p)) = true then .tuple [.tuple (ns.map .int), .int n] else .none
    | _, _ => .none
  | none => .none
def tieOf (l : List Nat) : PyData :=
  match TL.par [45] [] l with
  | some (a, b) => match numOf a, numOf b with
    | some n, some m => .tuple [.int n, .int m]
    | _, _ => .none
  | none => .none
theorem numOf_none : ∀ {xs : List (Option Int)}, allSome xs = none ↔ none ∈ xs
  | [] => ⟨fun h => (by cases h), fun h => (by cases h)⟩
  | none :: r => ⟨fun _ => List.mem_cons_self .., fun _ => rfl⟩
  | some n :: r => by
    have ih := numOf_none (xs := r)
    cases e : allSome r with
    | none => exact ⟨fun _ => List.mem_cons_of_mem _ (ih.mp e), fun _ => by simp only [allSome, e]; rfl⟩
    | some ms =>
      refine ⟨fun h => (by simp only [allSome, e] at h; cases h), fun h => ?_⟩
      rcases List.mem_cons.mp h with z | z
      · cases z
      · have := ih.mpr z
        rw [e] at this
        cases this
theorem allSome_some : ∀ {xs : List (Option Int)} {ns : List Int}, allSome xs = some ns → xs = ns.map some
  | [], ns, h => by cases h; rfl
  | none :: r, ns, h => by cases h
  | some n :: r, ns, h => by
    cases e : allSome r with
    | none => simp only [allSome, e] at h; cases h
    | some ms =>
      simp only [allSome, e] at h
      cases h
      rw [allSome_some e]
      rfl
theorem spl_len1 (c : Nat) : ∀ (l acc : List Nat), (TL.spl [c] 0 acc l).length ≤ l.length + 1
  | [], acc => by rw [TL.spl_nil]; exact Nat.le_refl _
  | d :: r, acc => by
    by_cases h : d = c
    · subst h
      rw [TL.spl_hit (by simp [TL.pre])]
      have := spl_len1 d r []
      show ((acc :: TL.spl [d] 0 [] r)).length ≤ _
      simp only [List.length_cons]
      omega
    · rw [TL.spl_miss (TL.pre_of_head [] r h)]
      have := spl_len1 c r (acc ++ [d])
      simp only [List.length_cons]
      omega
theorem spl_mem_len (c : Nat) : ∀ (l acc : List Nat), ∀ w ∈ TL.spl [c] 0 acc l, w.length ≤ acc.length + l.length
  | [], acc => by
    intro w hw
    rw [TL.spl_nil, List.mem_singleton] at hw
    subst hw
    exact Nat.le_refl _
  | d :: r, acc => by
    intro w hw
    by_cases h : d = c
    · subst h
      rw [TL.spl_hit (by simp [TL.pre])] at hw
      rcases List.mem_cons.mp hw with z | z
      · subst z
        omega
      · have := spl_mem_len d r [] w z
        simp only [List.length_cons, List.length_nil] at *
        omega
    · rw [TL.spl_miss (TL.pre_of_head [] r h)] at hw
      have := spl_mem_len c r (acc ++ [d]) w hw
      simp only [List.length_cons, List.length_append, List.length_nil] at *
      omega
theorem spl_ne (c : Nat) : ∀ (l acc : List Nat), TL.spl [c] 0 acc l ≠ []
  | [], acc => by rw [TL.spl_nil]; exact List.cons_ne_nil _ _
  | d :: r, acc => by
    by_cases h : d = c
    · subst h
      rw [TL.spl_hit (by simp [TL.pre])]
      exact List.cons_ne_nil _ _
    · rw [TL.spl_miss (TL.pre_of_head [] r h)]
      exact spl_ne c r _
theorem splS (l : List Nat) (c : Nat) (h : c < 256) : Txt.split (S l) (S [c]) = (TL.spl [c] 0 [] l).map S := SX.split_S (List.cons_ne_nil _ _) (by simp [h])
theorem par_len (c : Nat) : ∀ (l acc : List Nat) (a b : List Nat), TL.par [c] acc l = some (a, b) → a.length ≤ acc.length + l.length ∧ b.length ≤ l.length
  | [], acc, a, b, h => by cases h
  | d :: r, acc, a, b, h => by
    by_cases hd : d = c
    · subst hd
      rw [TL.par_hit (by simp [TL.pre])] at h
      cases h
      simp
    · rw [TL.par_miss (TL.pre_of_head [] r hd)] at h
      have := par_len c r (acc ++ [d]) a b h
      simp only [List.length_append, List.length_cons, List.length_nil] at *
      omega
/-- partition at one sign -/
def parOf (c : Nat) (l : List Nat) : List Nat × List Nat × List Nat :=
  match TL.par [c] [] l with
  | some (a, b) => (a, [c], b)
  | none => (l, [], [])
theorem parS (l : List Nat) (c : Nat) : Txt.partition (S l) (S [c]) = (S (parOf c l).1, S (parOf c l).2.1, S (parOf c l).2.2) := by
  unfold parOf
  cases e : TL.par [c] [] l with
  | none => exact SX.partition_none (List.cons_ne_nil _ _) e
  | some ab => exact SX.partition_some (List.cons_ne_nil _ _) e
theorem parOf_len (c : Nat) (l : List Nat) : (parOf c l).1.length ≤ l.length ∧ (parOf c l).2.2.length ≤ l.length := by
  unfold parOf
  cases e : TL.par [c] [] l with
  | none => exact ⟨Nat.le_refl _, Nat.zero_le _⟩
  | some ab =>
    have h := par_len c l [] ab.1 ab.2 e
    rw [List.length_nil, Nat.zero_add] at h
    exact h
theorem rowOf_par (p : Int) (l : List Nat) : rowOf p l = (match (parOf 42 l).2.1, numOf (parOf 42 l).1, pieceOf (parOf 42 l).2.2 with
    | _ :: _, some n, some ns => if (decide (1 ≤ n) && decide (n < p)) = true then .tuple [.tuple (ns.map .int), .int n] else .none
    | _, _, _ => .none) := by
  unfold rowOf parOf
  cases e : TL.par [42] [] l with
  | none => rfl
  | some ab =>
    dsimp only
    cases numOf ab.1 with
    | none => rfl
    | some n => cases pieceOf ab.2 <;> rfl
theorem tieOf_par (l : List Nat) : tieOf l = (match (parOf 45 l).2.1, numOf (parOf 45 l).1, numOf (parOf 45 l).2.2 with
    | _ :: _, some n, some m => .tuple [.int n, .int m]
    | _, _, _ => .none) := by
  unfold tieOf parOf
  cases e : TL.par [45] [] l with
  | none => rfl
  | some ab =>
    dsimp only
    cases numOf ab.1 with
    | none => rfl
    | some n => cases numOf ab.2 <;> rfl
end Fd
-- D4
namespace Fd
open PySem PySem.Spec PyProof.Rows L2
def sgB (p : Nat → Bool) : PyData → Bool
  | .str s => s.cps.toList.all p
  | _ => false
theorem sgB_sign (p : Nat → Bool) (c : Nat) : sgB p (.str (sign c)) = p c := by
  show [c].all p = p c
  rw [List.all_cons, List.all_nil, Bool.and_true]
theorem all_sg (p : Nat → Bool) : ∀ l : List Nat, (l.map fun c => PyData.str (sign c)).all (sgB p) = l.all p
  | [] => rfl
  | c :: r => by rw [List.map_cons, List.all_cons, List.all_cons, sgB_sign, all_sg p r]
theorem isNone_optI (o : Option Int) : isNone (optI o) = decide (o = none) := by cases o <;> rfl
theorem isNone_optL (o : Option (List Int)) : isNone (optL o) = decide (o = none) := by cases o <;> rfl
theorem scI (o : Option Int) : isSc (optI o) = true := by cases o <;> rfl
theorem inNone : ∀ (xs : List (Option Int)), inV (sc .none) ((xs.map optI).map sc) = decide (none ∈ xs)
  | [] => rfl
  | x :: xs => by
    have ih := inNone xs
    unfold inV at ih ⊢
    rw [List.map_cons, List.map_cons, List.any_cons, ih]
    cases x with
    | none =>
      show (true || _) = _
      rw [Bool.true_or, decide_eq_true (List.mem_cons_self ..)]
    | some n =>
      show (false || _) = _
      rw [Bool.false_or]
      exact decide_eq_decide.mpr ⟨fun h => List.mem_cons_of_mem _ h, fun h => by
        rcases List.mem_cons.mp h with z | z
        · cases z
        · exact z⟩
section
variable {P : Program} {w : World} {K : PySem.W.Frag} {mg : Str → Option Value} {base : Heap}
theorem cd_number_of (T : Tx K mg) : Cd P w K mg base CX0 1 "number_of" (SpD K (fun ds r => ∃ l : List Nat, ds = [.str (S l)] ∧ r = optI (numOf l) ∧ l.length ≤ 1000000)) := by
  refine cd_of (k := 0) T.d_number_of sc_number_of (fun _ _ _ _ _ _ us hl => match us, hl with | [_], _ => rfl) (SpD.len fun ds r h => by obtain ⟨_, e, _⟩ := h; rw [e]; rfl) ?_
  intro f cdv A outer s H vs Q E hr ⟨ds, r, hds, hf, kk⟩
  obtain ⟨l, e1, e2, hl⟩ := hf
  subst e1 e2
  obtain ⟨v0, e, r0⟩ := rps1 hds
  subst e
  refine ⟨_, (pss_cons (ps_if (PW.pt (pw_or (pt_not (pt_chain op_le op_le pe_int (pe_callB (kLen K) (by rfl) T.n_len PySem.boot_len (pa_cons (pv 0) pa_nil)) (pe_k T.k_MOST_FIGURES))) (pw_or1 (pt_not (pt_val (pe_callB (cr_all rfl) (by rfl) T.n_all (by decide +kernel) (pa_cons (pe_lc (own := [("sign", 1)]) rfl sc_number_of.nd (pi_str (pv 0)) (blkOk_by (N := N_number_of) (sc := defScope s_number_of) (by decide +kernel)) (fun _ _ _ _ _ => (pg_name (i := 1) sc_number_of.nd rfl (Or.inl rfl))) (fun _ _ _ _ _ => pts_nil) (fun _ _ _ _ _ => (pe_cmpR op_in_sign (pv 1) (pe_k T.k_FIGURES) (by rfl)))) pa_nil)))))))
      (pss_one (ps_ret pe_non)) pss_nil)
    (pss_one (ps_ret (pe_ifExp (PW.pt (pw_and (pt_cmpR op_eq (pe_ix ix_str (pv 0) pe_int (fun _ _ => rfl)) pe_str (nomark _)) (pw_and1 (pt_cmpR op_ne (pv 0) pe_str (nomark _))))) pe_non (pe_callTy call_int_str (by rfl) T.n_int (by decide +kernel) (pa_cons (pv 0) pa_nil)))))), ?_⟩
  have hl2 : (S l).length ≤ 10000000 := by rw [S_len]; omega
  refine if0 (et_or (b := !l.all isF) (et_not (et_of (ev_chain ev_int (ev_lenS (ev_var rfl r0) hl2) rv_B0 (fun _ => ev_int) rv_B0))) fun _ => et_is (et_not (et_B (ev_allS (src_str (ev_var rfl r0)) (by rw [List.length_map]; show l.length ≤ _; omega) (fB := sgB isF) fun d hd => lcs_name fun H2 x x2 r => by
    obtain ⟨c, _, e⟩ := List.mem_map.mp hd
    subst e
    rw [sgB_sign, ← figs]
    exact ev_inSign (ev_var rfl r) ev_str))) (by rw [all_sg])) (fun hb H1 x1 => ?_) fun hb H1 x1 => ?_
  · refine ret0 kk x1 ev_non ?_
    rw [S_len, lenB _ 20 (i := 20) rfl] at hb
    have : numB l = false := by
      unfold numB
      cases h1 : (decide (1 ≤ l.length) && decide (l.length ≤ 20)) with
      | false => rfl
      | true =>
        rw [h1, Bool.not_true, Bool.false_or, Bool.not_eq_true'] at hb
        rw [hb]
        rfl
    unfold numOf
    rw [this]
    rfl
  · rw [S_len, lenB _ 20 (i := 20) rfl, Bool.or_eq_false_iff, Bool.not_eq_false', Bool.not_eq_false'] at hb
    replace r0 := x1.rp r0
    have hn : numB l = !(decide (l.head? = some 48) && !decide (l = [48])) := by
      unfold numB
      rw [hb.1, hb.2]
      rfl
    have hlen := hb.1
    rw [Bool.and_eq_true, decide_eq_true_eq, decide_eq_true_eq] at hlen
    cases l with
    | nil => exact absurd hlen.1 (by decide)
    | cons c r =>
      refine ret0 kk x1 (ev_if (et_and (et_of (ev_eqS (ev_ixS (j := 0) (c := c) (ev_var rfl r0) ev_int hl2 (ixN_nat (by simp)) rfl) ev_str)) fun _ => (et_of (ev_neS (ev_var rfl r0) ev_str))) (fun _ => ev_non) fun _ => (ev_intS (ev_var rfl r0) (SX.int_S hb.2 (List.cons_ne_nil _ _) (by omega)) (by rw [S_len]; omega))) ?_
      have e1 : (sign c = Str.ofString "0") ↔ (c :: r).head? = some 48 := by
        rw [l_zero]
        exact ⟨fun h => by
          have := S_eq.mp (show S [c] = S [48] from h)
          cases this
          rfl, fun h => by cases h; rfl⟩
      have e2 : (S (c :: r) = Str.ofString "0") ↔ (c :: r) = [48] := by
        rw [l_zero]
        exact S_eq
      rw [decide_eq_decide.mpr e1, decide_eq_decide.mpr e2]
      unfold numOf
      rw [hn]
      cases (decide ((c :: r).head? = some 48) && !decide (c :: r = [48])) <;> rfl
theorem cd_list_of (T : Tx K mg) : Cd P w K mg base CX0 2 "list_of" (SpD K (fun ds r => ∃ l : List Nat, ds = [.str (S l)] ∧ r = optL (listOf l) ∧ l.length ≤ 1000000)) := by
  refine cd_of (k := 1) T.d_list_of sc_list_of (fun _ _ _ _ _ _ us hl => match us, hl with | [_], _ => rfl) (SpD.len fun ds r h => by obtain ⟨_, e, _⟩ := h; rw [e]; rfl) ?_
  intro f cdv A outer s H vs Q E hr ⟨ds, r, hds, hf, kk⟩
  obtain ⟨l, e1, e2, hl⟩ := hf
  subst e1 e2
  obtain ⟨v0, e, r0⟩ := rps1 hds
  subst e
  refine ⟨_, (pss_cons (ps_set (i := 1) sc_list_of.nd rfl (Or.inl rfl) (pe_callTy (kTupOf K) (by rfl) T.n_tuple (by decide +kernel) (pa_cons (pe_lc (own := [("part", 2)]) rfl sc_list_of.nd (pi_list (pe_split (pv 0) pe_str)) (blkOk_by (N := N_list_of) (sc := defScope s_list_of) (by decide +kernel)) (fun _ _ _ _ _ => (pg_name (i := 2) sc_list_of.nd rfl (Or.inl rfl))) (fun _ _ _ _ _ => pts_nil) (fun _ _ _ _ _ => (pe_d (cd_number_of T) hr (by decide) (pa_cons (pv 2) pa_nil)))) pa_nil)))
    (pss_cons (ps_if (PW.pt (pw_or (pt_cmpR (kIn K) pe_non (pv 1) (by first | exact nomark _ | rfl)) (pw_or1 (pt_not (pt_val (pe_callB (cr_all rfl) (by rfl) T.n_all (by decide +kernel) (pa_cons (pe_lc (own := [("one", 3), ("other", 4)]) (g := (gTup K 2 (gCons (gName 3) (gCons (gName 4) gNil)))) (tt := tYes) rfl sc_list_of.nd (RZ.pi_zipA (by rfl) T.n_zip (pa_cons (pv 1) (pa_cons (pe_slice (kSl K) (pv 1) (po_some pe_int) po_none) pa_nil))) (blkOk_by (N := N_list_of) (sc := defScope s_list_of) (by decide +kernel)) (fun _ _ _ _ _ => (pg_tup rfl (pgs_cons (pg_name (i := 3) sc_list_of.nd rfl (Or.inl rfl)) (pgs_cons (pg_name (i := 4) sc_list_of.nd rfl (Or.inl rfl)) pgs_nil)))) (fun _ _ _ _ _ => pts_nil) (fun _ _ _ _ _ => (pe_cmpR op_lt (pv 3) (pv 4) (nomark _)))) pa_nil)))))))
      (pss_one (ps_ret pe_non)) pss_nil)
    (pss_one (ps_ret (pv 1))))), ?_⟩
  have hl2 : (S l).length ≤ 10000000 := by rw [S_len]; omega
  have e0 : (Txt.split (S l) (Str.ofString ",")).map PyData.str = (TL.spl [44] 0 [] l).map fun w => .str (S w) := by rw [l_comma, splS l 44 (by decide), List.map_map]; rfl
  have hll := spl_len1 44 l []
  have hm : EvL W0 K _ _ H _ := el_map (te := tCall (SpD K (fun ds r => ∃ l : List Nat, ds = [.str (S l)] ∧ r = optI (numOf l) ∧ l.length ≤ 1000000)) [] E0 (tCons (tVar 2) tNil)) (σ := L2.start N_list_of [v0]) (vs := [2]) (fo := fun d => match d with | .str s => optI (numOf s.cps.toList) | _ => .none) (src_list (er_of_l (el_split (ev_var (i := 0) rfl r0) ev_str rfl hl2))) (by rw [e0, List.length_map]; omega) fun d hd => lcs_name (i := 2) fun H2 x x2 r => by
    rw [e0] at hd
    obtain ⟨w, hw, e⟩ := List.mem_map.mp hd
    subst e
    have := spl_mem_len 44 l [] w hw
    exact ev_call (ea_cons (ev_var rfl r) ea_nil) ⟨_, rfl, rfl, by rw [List.length_nil] at this; omega⟩
  have e1 : ((Txt.split (S l) (Str.ofString ",")).map PyData.str).map (fun d => match d with | .str s => optI (numOf s.cps.toList) | _ => .none) = ((TL.spl [44] 0 [] l).map numOf).map optI := by
    rw [e0, List.map_map, List.map_map]
    rfl
  rw [e1] at hm
  refine set0 K (ev_tupOf hm) fun v1 H1 x1 r1 => ?_
  have hsc : ∀ e ∈ ((TL.spl [44] 0 [] l).map numOf).map optI, isSc e = true := fun e he => by
    obtain ⟨o, _, z⟩ := List.mem_map.mp he
    subst z
    exact scI o
  unfold listOf at kk
  cases ha : allSome ((TL.spl [44] 0 [] l).map numOf) with
  | none =>
    rw [ha] at kk
    have hi := numOf_none.mp ha
    refine if0 (et_or (b := false) (et_is (b := true) (et_of (ev_in ev_non (es_of_t (ev_var rfl r1)) rfl hsc)) (by rw [if_neg (by decide), inNone]; exact decide_eq_true hi)) fun h => by cases h) (fun hb H2 x2 => ret0 kk (x1.trans x2) ev_non rfl) fun hb => by cases hb
  | some ns =>
    rw [ha] at kk
    have hs := allSome_some ha
    have e3 : ((TL.spl [44] 0 [] l).map numOf).map optI = ns.map .int := by rw [hs, List.map_map]; rfl
    have hni : none ∉ (TL.spl [44] 0 [] l).map numOf := fun z => by
      have := numOf_none.mpr z
      rw [ha] at this
      cases this
    have hin : (if false = true then !inV (sc .none) ((ns.map PyData.int).map sc) else inV (sc .none) ((ns.map PyData.int).map sc)) = false := by
      rw [if_neg (by decide), ← e3, inNone]
      exact decide_eq_false hni
    rw [e3] at hsc r1
    have hnl : ns.length ≤ 10000000 := by
      have := congrArg List.length hs
      rw [List.length_map, List.length_map] at this
      omega
    refine if0 (et_or (b := !rise ns) (et_is (b := false) (et_of (ev_in ev_non (es_of_t (ev_var rfl r1)) rfl hsc)) hin) fun _ => et_not (et_B (ev_riseT (ev_var rfl r1) (ev_tailT (ev_var rfl r1)) hnl))) (fun hb H2 x2 => ?_) fun hb H2 x2 => ?_
    · rw [Bool.false_or, Bool.not_eq_true'] at hb
      dsimp only at kk
      rw [if_neg (by rw [hb]; decide)] at kk
      exact ret0 kk (x1.trans x2) ev_non rfl
    · rw [Bool.false_or, Bool.not_eq_false'] at hb
      dsimp only at kk
      rw [if_pos hb] at kk
      exact ret0 kk (x1.trans x2) (ev_var rfl (x2.rp r1)) rfl
theorem cd_piece_of (T : Tx K mg) : Cd P w K mg base CX0 4 "piece_of" (SpD K (fun ds r => ∃ l : List Nat, ds = [.str (S l)] ∧ r = optL (pieceOf l) ∧ l.length ≤ 1000000)) := by
  refine cd_of (k := 3) T.d_piece_of sc_piece_of (fun _ _ _ _ _ _ us hl => match us, hl with | [_], _ => rfl) (SpD.len fun ds r h => by obtain ⟨_, e, _⟩ := h; rw [e]; rfl) ?_
  intro f cdv A outer s H vs Q E hr ⟨ds, r, hds, hf, kk⟩
  obtain ⟨l, e1, e2, hl⟩ := hf
  subst e1 e2
  obtain ⟨v0, e, r0⟩ := rps1 hds
  subst e
  refine ⟨_, (pss_cons (ps_set (i := 1) sc_piece_of.nd rfl (Or.inl rfl) (pe_d (cd_list_of T) hr (by decide) (pa_cons (pv 0) pa_nil)))
    (pss_one (ps_ret (pe_ifExp (PW.pt (pw_and (pt_cmpR op_notN (pv 1) pe_non (nomark _)) (pw_and1 (pt_val (pe_d (cd_is_piece T) hr (by decide) (pa_cons (pv 1) pa_nil)))))) (pv 1) pe_non)))), ?_⟩
  refine set0 K (ev_call (ea_cons (ev_var rfl r0) ea_nil) ⟨_, rfl, rfl, hl⟩) fun v1 H1 x1 r1 => ?_
  refine ret0 kk x1 (ev_if (et_and (et_of (ev_notN (ev_var rfl r1) ev_non)) fun _ => (et_B (ev_call (ea_cons (ev_var rfl r1) ea_nil) ⟨_, rfl, rfl⟩))) (fun _ => (ev_var rfl r1)) fun _ => ev_non) ?_
  unfold pieceOf
  cases listOf l with
  | none => rfl
  | some ns =>
    show (if (true && isPieceB (.tuple (ns.map .int))) = true then _ else _) = _
    rw [isPiece_lot, lotB_map, Bool.true_and]
    dsimp only
    cases lotI ns 7 0 19 <;> rfl
/-- the words of a split text -/
theorem el_words {W : Wd} {σ : L2.St} {H : Hp} {ta tb : TE} {l : List Nat} {b : Str} (c : Nat) (hc : c < 256) (e : b = S [c]) (ha : Ev W K ta σ H (.str (S l))) (hb : Ev W K tb σ H (.str b)) (hl : l.length ≤ 1000000) :
    EvL W K (tM1 (fun x xs H Q => ∃ a b, x = .str a ∧ xs = [.str b] ∧ (b.length == 0) = false ∧ a.length + 2 ≤ sizeLine ∧ rNewStrs (Txt.split a b) H Q) ta tb) σ H ((TL.spl [c] 0 [] l).map fun w => .str (S w)) := by
  subst e
  have h := el_split ha hb rfl (by rw [S_len]; omega)
  have e0 : (Txt.split (S l) (S [c])).map PyData.str = (TL.spl [c] 0 [] l).map fun w => .str (S w) := by rw [splS l c hc, List.map_map]; rfl
  rw [e0] at h
  exact h
theorem ev_parts {W : Wd} {σ : L2.St} {H : Hp} {ta tb : TE} {l : List Nat} {b : Str} (c : Nat) (e : b = S [c]) (ha : Ev W K ta σ H (.str (S l))) (hb : Ev W K tb σ H (.str b)) (hl : l.length ≤ 1000000) :
    Ev W K (tM1 (fun x xs H Q => ∃ a b, x = .str a ∧ xs = [.str b] ∧ (b.length == 0) = false ∧ a.length ≤ sizeLine ∧ ∀ p, H p = none → Q (.ref p) (upd H p (.tup [.str (Txt.partition a b).1, .str (Txt.partition a b).2.1, .str (Txt.partition a b).2.2]))) ta tb) σ H
      (.tuple [.str (S (parOf c l).1), .str (S (parOf c l).2.1), .str (S (parOf c l).2.2)]) := by
  subst e
  have h := ev_partition ha hb rfl (by rw [S_len]; omega)
  rw [parS] at h
  exact h
theorem cd_row_of (T : Tx K mg) : Cd P w K mg base CX0 5 "row_of" (SpD K (fun ds r => ∃ (l : List Nat) (p : Int), ds = [.str (S l), .int p] ∧ r = rowOf p l ∧ l.length ≤ 1000000)) := by
  refine cd_of (k := 4) T.d_row_of sc_row_of (fun _ _ _ _ _ _ us hl => match us, hl with | [_, _], _ => rfl) (SpD.len fun ds r h => by obtain ⟨_, _, e, _⟩ := h; rw [e]; rfl) ?_
  intro f cdv A outer s H vs Q E hr ⟨ds, r, hds, hf, kk⟩
  obtain ⟨l, p, e1, e2, hl⟩ := hf
  subst e1 e2
  obtain ⟨v0, v1, e, r0, r1⟩ := rps2 hds
  subst e
  refine ⟨_, (pss_cons (ps_asg (pe_partition (pv 0) pe_str) (pg_tup rfl (pgs_cons (pg_name (i := 2) sc_row_of.nd rfl (Or.inl rfl)) (pgs_cons (pg_name (i := 3) sc_row_of.nd rfl (Or.inl rfl)) (pgs_cons (pg_name (i := 4) sc_row_of.nd rfl (Or.inl rfl)) pgs_nil)))))
    (pss_cons (ps_par (i := 5) (j := 6) rfl sc_row_of.nd rfl rfl (by decide) rfl rfl (pa_cons (pe_d (cd_number_of T) hr (by decide) (pa_cons (pv 2) pa_nil)) (pa_cons (pe_d (cd_piece_of T) hr (by decide) (pa_cons (pv 4) pa_nil)) pa_nil)) (by rfl))
    (pss_cons (ps_if (PW.pt (pw_or (pt_cmpR op_eq (pv 3) pe_str (nomark _)) (pw_or (pt_cmpR op_isN (pv 5) pe_non (nomark _)) (pw_or (pt_not (pt_chain op_le op_lt pe_int (pv 5) (pv 1))) (pw_or1 (pt_cmpR op_isN (pv 6) pe_non (nomark _)))))))
      (pss_one (ps_ret pe_non)) pss_nil)
    (pss_one (ps_ret (pe_tup (pa_cons (pv 6) (pa_cons (pv 5) pa_nil)))))))), ?_⟩
  have hp := parOf_len 42 l
  refine asg_then (W := W0) (p := VP.d W0 K _) trivial (ev_parts 42 l_star (ev_var rfl r0) ev_str hl) fun x H1 x1 hx => g_three hx fun a b c r2 r3 r4 => ?_
  replace r0 := x1.rp r0
  replace r1 := x1.rp r1
  refine par_then (W := W0) (p := VP.d W0 K _) (q := VP.d W0 K _) trivial (ev_call (ea_cons (ev_var rfl r2) ea_nil) ⟨_, rfl, rfl, by omega⟩) (ev_call (ea_cons (ev_var rfl r4) ea_nil) ⟨_, rfl, rfl, by omega⟩) fun v5 v6 H2 x2 r5 r6 => ?_
  replace r1 := x2.rp r1
  replace r3 := x2.rp r3
  rw [rowOf_par] at kk
  generalize (parOf 42 l).2.1 = sg at kk r3
  generalize numOf (parOf 42 l).1 = on at kk r5
  generalize pieceOf (parOf 42 l).2.2 = op at kk r6
  have x12 := x1.trans x2
  cases sg with
  | nil =>
    exact if0 (et_or (b := false) (et_is (b := true) (et_of (ev_eqS (ev_var rfl r3) ev_str)) (decide_eq_true l_none.symm)) fun h => by cases h) (fun hb H3 x3 => ret0 kk (x12.trans x3) ev_non rfl) fun hb => by cases hb
  | cons c r =>
    have ns : ¬ S (c :: r) = Str.ofString "" := fun z => by
      rw [l_none] at z
      cases S_eq.mp z
    cases on with
    | none =>
      exact if0 (et_or (b := true) (et_is (b := false) (et_of (ev_eqS (ev_var rfl r3) ev_str)) (decide_eq_false ns)) fun _ => et_is (et_or (b := false) (et_of (ev_isN (ev_var rfl r5) ev_non)) fun h => by cases h) rfl) (fun hb H3 x3 => ret0 kk (x12.trans x3) ev_non rfl) fun hb => by cases hb
    | some n =>
      refine if0 (et_or (et_is (b := false) (et_of (ev_eqS (ev_var rfl r3) ev_str)) (decide_eq_false ns)) fun _ => (et_or (et_of (ev_isN (ev_var rfl r5) ev_non)) fun _ => (et_or (et_not (et_of (ev_chain ev_int (ev_var rfl r5) rv_B0 (fun _ => (ev_var rfl r1)) rv_B0))) fun _ => (et_of (ev_isN (ev_var rfl r6) ev_non))))) (fun hb H3 x3 => ?_) fun hb H3 x3 => ?_
      · refine ret0 kk (x12.trans x3) ev_non ?_
        cases op with
        | none => rfl
        | some ms =>
          have hb' : (false || (false || (!(decide (1 ≤ n) && decide (n < p)) || false))) = true := hb
          rw [Bool.false_or, Bool.false_or, Bool.or_false, Bool.not_eq_true'] at hb'
          show _ = if (decide (1 ≤ n) && decide (n < p)) = true then _ else _
          rw [hb']
          rfl
      · cases op with
        | none =>
          have hb' : (false || (false || (!(decide (1 ≤ n) && decide (n < p)) || true))) = false := hb
          rw [Bool.or_true] at hb'
          cases hb'
        | some ms =>
          have hb' : (false || (false || (!(decide (1 ≤ n) && decide (n < p)) || false))) = false := hb
          rw [Bool.false_or, Bool.false_or, Bool.or_false, Bool.not_eq_false'] at hb'
          refine ret0 kk (x12.trans x3) (ev_tup (ea_cons (ev_var rfl (x3.rp r6)) (ea_cons (ev_var rfl (x3.rp r5)) ea_nil))) ?_
          show _ = if (decide (1 ≤ n) && decide (n < p)) = true then _ else _
          rw [hb']
          rfl
theorem cd_pair_of (T : Tx K mg) : Cd P w K mg base CX0 2 "pair_of" (SpD K (fun ds r => ∃ (l : List Nat), ds = [.str (S l)] ∧ r = tieOf l ∧ l.length ≤ 1000000)) := by
  refine cd_of (k := 1) T.d_pair_of sc_pair_of (fun _ _ _ _ _ _ us hl => match us, hl with | [_], _ => rfl) (SpD.len fun ds r h => by obtain ⟨_, e, _⟩ := h; rw [e]; rfl) ?_
  intro f cdv A outer s H vs Q E hr ⟨ds, r, hds, hf, kk⟩
  obtain ⟨l, e1, e2, hl⟩ := hf
  subst e1 e2
  obtain ⟨v0, e, r0⟩ := rps1 hds
  subst e
  refine ⟨_, (pss_cons (ps_asg (pe_partition (pv 0) pe_str) (pg_tup rfl (pgs_cons (pg_name (i := 1) sc_pair_of.nd rfl (Or.inl rfl)) (pgs_cons (pg_name (i := 2) sc_pair_of.nd rfl (Or.inl rfl)) (pgs_cons (pg_name (i := 3) sc_pair_of.nd rfl (Or.inl rfl)) pgs_nil)))))
    (pss_cons (ps_set (i := 4) sc_pair_of.nd rfl (Or.inl rfl) (pe_tup (pa_cons (pe_d (cd_number_of T) hr (by decide) (pa_cons (pv 1) pa_nil)) (pa_cons (pe_d (cd_number_of T) hr (by decide) (pa_cons (pv 3) pa_nil)) pa_nil))))
    (pss_one (ps_ret (pe_ifExp (PW.pt (pw_and (pt_cmpR op_ne (pv 2) pe_str (nomark _)) (pw_and1 (pt_cmpR (kNotIn K) pe_non (pv 4) (by first | exact nomark _ | rfl))))) (pv 4) pe_non))))), ?_⟩
  have hp := parOf_len 45 l
  refine asg_then (W := W0) (p := VP.d W0 K _) trivial (ev_parts 45 l_dash (ev_var rfl r0) ev_str hl) fun x H1 x1 hx => g_three hx fun a b c r1 r2 r3 => ?_
  refine set0 K (ev_tup (ea_cons (ev_call (ea_cons (ev_var rfl r1) ea_nil) ⟨_, rfl, rfl, by omega⟩) (ea_cons (ev_call (ea_cons (ev_var rfl r3) ea_nil) ⟨_, rfl, rfl, by omega⟩) ea_nil)) (by simp)) fun v4 H2 x2 r4 => ?_
  replace r2 := x2.rp r2
  rw [tieOf_par] at kk
  generalize (parOf 45 l).2.1 = sg at kk r2
  generalize numOf (parOf 45 l).1 = on at kk r4
  generalize numOf (parOf 45 l).2.2 = op at kk r4
  have x12 := x1.trans x2
  have hsc : ∀ e ∈ [optI on, optI op], isSc e = true := fun e he => by
    rcases List.mem_cons.mp he with z | he
    · rw [z]; exact scI on
    · rw [List.mem_singleton.mp he]; exact scI op
  refine ret0 kk x12 (ev_if (et_and (et_of (ev_neS (ev_var rfl r2) ev_str)) fun _ => (et_of (ev_in (neg := true) ev_non (es_of_t (ev_var rfl r4)) rfl hsc))) (fun _ => (ev_var rfl r4)) fun _ => ev_non) ?_
  have hin : (if true = true then !inV (sc .none) (List.map sc [optI on, optI op]) else inV (sc .none) (List.map sc [optI on, optI op])) = !decide (none ∈ [on, op]) := by
    rw [if_pos rfl]
    exact congrArg _ (inNone [on, op])
  rw [hin]
  cases sg with
  | nil =>
    rw [decide_eq_true (l_none.symm : S [] = Str.ofString "")]
    rfl
  | cons c r =>
    have ns : ¬ S (c :: r) = Str.ofString "" := fun z => by
      rw [l_none] at z
      cases S_eq.mp z
    rw [decide_eq_false ns]
    cases on <;> cases op <;> rfl
theorem cd_words_of (T : Tx K mg) : Cd P w K mg base CX0 1 "words_of" (SpL K fun ds es => ∃ l : List Nat, ds = [.str (S l)] ∧ es = (TL.spl [32] 0 [] l).map (fun w => .str (S w)) ∧ l.length ≤ 1000000) := by
  refine cd_of (k := 0) T.d_words_of sc_words_of (fun _ _ _ _ _ _ us hl => match us, hl with | [_], _ => rfl) (SpL.len fun ds r h => by obtain ⟨_, e, _⟩ := h; rw [e]; rfl) ?_
  intro f cdv A outer s H vs Q E hr ⟨ds, r, hds, ⟨l, e1, e2, hl⟩, kk⟩
  subst e1 e2
  obtain ⟨v0, e, r0⟩ := rps1 hds
  subst e
  exact ⟨_, (pss_one (ps_ret (pe_split (pv 0) pe_str))), retL kk xn (el_words 32 (by decide) l_space (ev_var rfl r0) ev_str hl)⟩
end
end Fd
-- M4
/-! Texts of papers, in plain Lean. -/
namespace Fd
open PySem PySem.Spec PyProof.Rows L2
def numW (n : Int) : List Nat := TL.numL n.toNat
def listW (ns : List Int) : List Nat := TL.joinL [44] (ns.map numW)
def gr (n : Int) : Prop := 0 ≤ n ∧ n ≤ HI
theorem numW_S {n : Int} (h : gr n) : (toString n : Str) = S (numW n) := by
  have e : n = ((n.toNat : Nat) : Int) := by have := h.1; omega
  have := SX.num_S n.toNat
  rw [← e] at this
  exact this
theorem numW_len {n : Int} (h : gr n) : (numW n).length ≤ 20 := by
  refine TL.numL_len (by decide) ?_
  have := h.2
  unfold HI at this
  have h0 := h.1
  omega
theorem gr_log {n : Int} (h : gr n) : n.natAbs.log2 < 1920 := by
  have h2 := h.2
  unfold HI at h2
  have h1 := h.1
  have : n.natAbs < 2 ^ 1920 := Nat.lt_of_lt_of_le (show n.natAbs < 100000000000000000000 by omega) (by decide +kernel)
  by_cases z : n.natAbs = 0
  · rw [z]; decide
  · exact (Nat.log2_lt z).mpr this
theorem join_len (c : Nat) : ∀ ws : List (List Nat), (TL.joinL [c] ws).length ≤ (ws.map fun w => w.length + 1).sum
  | [] => Nat.le_refl _
  | [a] => by
    show a.length ≤ _
    simp
  | a :: b :: r => by
    have := join_len c (b :: r)
    show (a ++ ([c] ++ TL.joinL [c] (b :: r))).length ≤ _
    simp only [List.length_append, List.length_cons, List.length_nil, List.map_cons, List.sum_cons] at *
    omega
theorem sum_le {α} (f : α → Nat) (k : Nat) : ∀ l : List α, (∀ a ∈ l, f a ≤ k) → (l.map f).sum ≤ k * l.length
  | [], _ => Nat.zero_le _
  | a :: r, h => by
    have h1 := h a (List.mem_cons_self ..)
    have h2 := sum_le f k r fun b hb => h b (List.mem_cons_of_mem _ hb)
    rw [List.map_cons, List.sum_cons, List.length_cons, Nat.mul_add]
    omega
theorem join_le (c k : Nat) (ws : List (List Nat)) (h : ∀ w ∈ ws, w.length ≤ k) : (TL.joinL [c] ws).length ≤ (k + 1) * ws.length :=
  Nat.le_trans (join_len c ws) (sum_le _ _ _ fun w hw => Nat.succ_le_succ (h w hw))
theorem listW_len {ns : List Int} (h : ∀ n ∈ ns, gr n) : (listW ns).length ≤ 21 * ns.length := by
  have := join_le 44 20 (ns.map numW) fun w hw => by
    obtain ⟨n, hn, e⟩ := List.mem_map.mp hw
    rw [← e]
    exact numW_len (h n hn)
  rw [List.length_map] at this
  exact this
def rowW (ns : List Int) (n : Int) : List Nat := numW n ++ [42] ++ listW ns
def tieW (a b : Int) : List Nat := numW a ++ [45] ++ numW b
/-- a part of a paper, as a word -/
def partW : PyData → List Nat
  | .int n => numW n
  | .tuple [.tuple ds, .int n] => rowW ((intsOf ds).getD []) n
  | _ => []
def tieWd : PyData → List Nat
  | .tuple [.int a, .int b] => tieW a b
  | _ => []
def lotW : PyData → List Nat
  | .tuple ds => listW ((intsOf ds).getD [])
  | _ => []
end Fd
-- Ev5
namespace Fd
open PySem PySem.Spec PyProof.Rows L2
section
variable {W : Wd} {K : PySem.W.Frag} {σ : L2.St} {H : Hp} {ta tb tc te : TE} {ds : List PyData}
theorem ev_fmtI {n : Int} (h : Ev W K te σ H (.int n)) (hn : gr n) : Ev W K (tFmt te) σ H (.str (S (numW n))) := fun H1 x Q k =>
  h H1 x _ fun v H2 x2 hv => .inr ⟨n, rp_int.mp hv, gr_log hn, by rw [numW_S hn]; exact k _ H2 x2 (rp_str.mpr rfl)⟩
theorem ev_fmtS {s : Str} (h : Ev W K te σ H (.str s)) (hl : s.length ≤ 10000000) : Ev W K (tFmt te) σ H (.str s) := fun H1 x Q k =>
  h H1 x _ fun v H2 x2 hv => .inl ⟨s, rp_str.mp hv, sz_of hl, k _ H2 x2 (rp_str.mpr rfl)⟩
theorem ev_strN {n : Int} (h : Ev W K te σ H (.int n)) (hn : gr n) : Ev W K (tCB (fun xs H Q => ∃ i, xs = [.int i] ∧ i.natAbs.log2 < 1920 ∧ Q (.str (toString i)) H) (tCons te tNil)) σ H (.str (S (numW n))) := by
  have := ev_strI h (gr_log hn)
  rw [numW_S hn] at this
  exact this
theorem ev_strNo {n : Int} (h : Ev W K te σ H (.int n)) (hn : gr n) : Ev W K (tCB (fun xs H Q => (∃ i, xs = [.int i] ∧ i.natAbs.log2 < 1920 ∧ Q (.str (toString i)) H) ∨ ∃ a, xs = [.str a] ∧ Q (.str a) H) (tCons te tNil)) σ H (.str (S (numW n))) :=
  evp_cb1 h fun x H jH hx Q k => .inl ⟨n, by rw [rp_int.mp hx], gr_log hn, by rw [numW_S hn]; exact k _ H (Wx.refl jH) (rp_str.mpr rfl)⟩
theorem ev_strSo {s : Str} (h : Ev W K te σ H (.str s)) : Ev W K (tCB (fun xs H Q => (∃ i, xs = [.int i] ∧ i.natAbs.log2 < 1920 ∧ Q (.str (toString i)) H) ∨ ∃ a, xs = [.str a] ∧ Q (.str a) H) (tCons te tNil)) σ H (.str s) :=
  evp_cb1 h fun x H jH hx Q k => .inr ⟨s, by rw [rp_str.mp hx], k _ H (Wx.refl jH) (rp_str.mpr rfl)⟩
/-- f'{a}b{c}' -/
theorem ev_js3 {a b c : List Nat} {B : Str} (e : B = S b) (ha : Ev W K ta σ H (.str (S a))) (hb : Ev W K tb σ H (.str B)) (hc : Ev W K tc σ H (.str (S c))) (hl : a.length + b.length + c.length ≤ 10000000) :
    Ev W K (fun σ H Q => tJs [ta, tb, tc] Str.empty σ H fun out H1 => Q (.str out) H1) σ H (.str (S (a ++ b ++ c))) := fun H1 x Q k => by
  subst e
  have e0 : (Str.empty : Str) ++ S a = S a := TL.ext_tl (by rw [TL.tl_append]; rfl)
  refine ha H1 x _ fun v H2 x2 hv => ⟨S a, rp_str.mp hv, ?_, ?_⟩
  · rw [e0, S_len]; exact sz_of (by omega)
  rw [e0]
  refine hb H2 (x.trans x2) _ fun v H3 x3 hv => ⟨S b, rp_str.mp hv, ?_, ?_⟩
  · rw [SX.S_cat, S_len, List.length_append]; exact sz_of (by omega)
  rw [SX.S_cat]
  refine hc H3 ((x.trans x2).trans x3) _ fun v H4 x4 hv => ⟨S c, rp_str.mp hv, ?_, ?_⟩
  · rw [SX.S_cat, S_len, List.length_append, List.length_append]; exact sz_of (by omega)
  rw [SX.S_cat]
  exact k _ H4 ((x2.trans x3).trans x4) (rp_str.mpr rfl)
theorem joinS (c : Nat) (ws : List (List Nat)) : Txt.join (S [c]) (ws.map S) = S (TL.joinL [c] ws) := SX.join_S [c] ws
/-- words joined -/
theorem ev_joinW {c k : Nat} {B : Str} {ws : List (List Nat)} (e : B = S [c]) (ha : Ev W K ta σ H (.str B)) (hb : EvS W K tb σ H (ws.map fun w => .str (S w))) (hk : ∀ w ∈ ws, w.length ≤ k) (hl : (k + 1) * ws.length ≤ 10000000) :
    Ev W K (tM1 (rJoin K) ta tb) σ H (.str (S (TL.joinL [c] ws))) := by
  subst e
  have e2 : ws.map (fun w => PyData.str (S w)) = (ws.map S).map .str := by rw [List.map_map]; rfl
  rw [e2] at hb
  have h := ev_join ha hb (by
    rw [SX.lens, List.length_map, S_len]
    have := sum_le (fun w : List Nat => w.length) k ws hk
    have e3 : (k + 1) * ws.length = k * ws.length + ws.length := Nat.succ_mul _ _
    simp only [List.length_cons, List.length_nil]
    omega)
  rw [joinS] at h
  exact h
end
end Fd
-- D5
namespace Fd
open PySem PySem.Spec PyProof.Rows L2
def numWd : PyData → List Nat
  | .int n => numW n
  | _ => []
def rowWd : PyData → List Nat
  | .tuple [.tuple ds, .int n] => rowW ((intsOf ds).getD []) n
  | _ => []
def wordFor (w : Str) (d : PyData) : List Nat :=
  if (decide (w = tFill) || decide (w = tSight)) = true then rowWd d else if w = tMatch then tieWd d else if w = tPlan then lotW d else numWd d
def partB (w : Str) (d : PyData) : Bool :=
  if (decide (w = tFill) || decide (w = tSight)) = true then rowB 96 d else if w = tMatch then tieB d else if w = tPlan then setB d else greatB d
theorem great_gr {d : PyData} (h : greatB d = true) : ∃ n, d = .int n ∧ gr n := by
  obtain ⟨n, e, h1, h2⟩ := wholeInt h
  exact ⟨n, e, h1, h2⟩
theorem lotI_gr {ns : List Int} {m : Nat} {lo hi : Int} (h : lotI ns m lo hi = true) (h0 : 0 ≤ lo) (h1 : hi ≤ HI) : (∀ n ∈ ns, gr n) ∧ ns.length ≤ m ∧ 1 ≤ ns.length := by
  unfold lotI at h
  simp only [Bool.and_eq_true, decide_eq_true_eq, List.all_eq_true] at h
  exact ⟨fun n hn => ⟨Int.le_trans h0 (h.2.1 n hn).1, Int.le_trans (h.2.1 n hn).2 h1⟩, h.1.2, h.1.1⟩
theorem tup_ints (ns : List Int) : (intsOf (ns.map .int)).getD [] = ns := by
  rw [intsOf_map]
  rfl
section
variable {W : Wd} {K : PySem.W.Frag} {σ : L2.St} {H : Hp} {ta te : TE}
/-- a comprehension over a list of any values -/
theorem el_lcV {i : Nat} {vs : List Nat} {xs : List V} {es : List PyData} (h : EvP ta σ H (⟨fun H v => ∃ p, v = .ref p ∧ RdL W K H p xs, fun x ⟨p, e, h⟩ => ⟨p, e, h.st x⟩⟩ : VP W)) (hl : xs.length ≤ 10000000) (hes : es.length = xs.length)
    (hf : ∀ (j : Nat) v e, xs[j]? = some v → es[j]? = some e → Ev W K te ((wipe σ vs).set i (some v)) H e) (hw : ∀ x : V, wipe ((wipe σ vs).set i (some x)) vs = wipe σ vs := by intro _; rfl) :
    EvL W K (tLc (iList K ta) (gName i) tYes te vs) σ H es := fun H1 x Q k =>
  h H1 x _ fun v H2 x2 ⟨p, e, hp⟩ => ⟨p, e, ⟨xs, hp.1⟩, fun D hD => by
    refine lc_it (walk_list (K := K) (a := p) (xs := xs)) (fun i Hi => Wx W H2 Hi ∧ ∃ acc, Hi D = some (.lst acc) ∧ Rps K Hi (es.take i) acc) ⟨Wx.new x2.2.1 hD, [], upd_same, by rw [List.take_zero]; exact rps_nil.mpr rfl⟩ (fun i Hi _ h => (hp.st h.1).1) (fun j y Hi Hi' hi ⟨xi, acc, ha, hr⟩ hy => ?_) fun Hi ⟨xi, acc, ha, hr⟩ => ?_
    · obtain ⟨e1, e2⟩ := hy
      subst e1
      have hj : j < es.length := by omega
      have nD : ¬ W.M D := Wx.nM x2.2.1 hD
      refine ⟨hw y, ?_⟩
      refine (fun h => (Eq.mpr (if_pos (e := Wx W H2 Hi' ∧ ∃ acc, Hi' D = some (HO.lst acc) ∧ Rps K Hi' (es.take (j + 1)) acc) (rfl : true = true)) h)) ?_
      refine (hf j y es[j] e2 (List.getElem?_eq_getElem hj)) _ ((x.trans x2).trans xi) _ fun v H4 x4 r4 => ?_
      have h4 : H4 D = some (.lst acc) := x4.2.2 _ _ ha nD
      have lacc : acc.length = j := by
        rw [hr.len, List.length_take]
        omega
      refine ⟨acc, h4, sz_lt (by omega), Wx.mut (xi.trans x4) hD h4 rfl, acc ++ [v], upd_same, ?_⟩
      have tk : es.take (j + 1) = es.take j ++ [es[j]] := by
        rw [List.take_add_one, List.getElem?_eq_getElem hj]
        rfl
      rw [tk]
      have kt : KeepT H4 (upd H4 D (.lst (acc ++ [v]))) := KeepT.mut h4 rfl
      exact (Rps.mono kt _ _ (x4.rps hr)).app (Rps.one (Rp.mono kt _ _ r4))
    · refine k _ Hi (x2.trans xi) ⟨D, acc, rfl, ha, Wx.nM x2.2.1 hD, ?_⟩
      rw [← hes, List.take_length] at hr
      exact hr⟩
end
section
variable {P : Program} {w : World} {K : PySem.W.Frag} {mg : Str → Option Value} {base : Heap}
theorem cd_list_word (T : Tx K mg) : Cd P w K mg base CX0 1 "list_word" (SpD K (fun ds r => ∃ ns : List Int, ds = [.tuple (ns.map .int)] ∧ r = .str (S (listW ns)) ∧ (∀ n ∈ ns, gr n) ∧ ns.length ≤ 4000)) := by
  refine cd_of (k := 0) T.d_list_word sc_list_word (fun _ _ _ _ _ _ us hl => match us, hl with | [_], _ => rfl) (SpD.len fun ds r h => by obtain ⟨_, e, _⟩ := h; rw [e]; rfl) ?_
  intro f cdv A outer s H vs Q E hr ⟨ds, r, hds, hf, kk⟩
  obtain ⟨ns, e1, e2, hg, hl⟩ := hf
  subst e1 e2
  obtain ⟨v0, e, r0⟩ := rps1 hds
  subst e
  refine ⟨_, (pss_one (ps_ret (kJoin K pe_str (pe_lc (own := [("number", 1)]) rfl sc_list_word.nd (pi_tup (pv 0)) (blkOk_by (N := N_list_word) (sc := defScope s_list_word) (by decide +kernel)) (fun _ _ _ _ _ => (pg_name (i := 1) sc_list_word.nd rfl (Or.inl rfl))) (fun _ _ _ _ _ => pts_nil) (fun _ _ _ _ _ => (pe_callTy call_str_int (by rfl) T.n_str (by decide +kernel) (pa_cons (pv 1) pa_nil))))))), ?_⟩
  have e : (ns.map PyData.int).map (fun d => match d with | .int n => PyData.str (S (numW n)) | _ => .none) = (ns.map numW).map fun w => .str (S w) := by
    rw [List.map_map, List.map_map]
    rfl
  refine ret0 kk x0 (ev_joinW (c := 44) (k := 20) (ws := ns.map numW) l_comma ev_str (es_of_l (e ▸ (el_map (src_tup (ev_var rfl r0)) (by rw [List.length_map]; omega) fun d hd => lcs_name fun H2 x x2 r => by
    obtain ⟨n, hn, e⟩ := List.mem_map.mp hd
    subst e
    exact ev_strN (ev_var rfl r) (hg n hn)))) (fun w hw => ?_) ?_) rfl
  · obtain ⟨n, hn, e⟩ := List.mem_map.mp hw
    rw [← e]
    exact numW_len (hg n hn)
  · rw [List.length_map]
    omega
theorem cd_row_word (T : Tx K mg) : Cd P w K mg base CX0 2 "row_word" (SpD K (fun ds r => ∃ (ns : List Int) (n : Int), ds = [.tuple [.tuple (ns.map .int), .int n]] ∧ r = .str (S (rowW ns n)) ∧ (∀ n ∈ ns, gr n) ∧ ns.length ≤ 4000 ∧ gr n)) := by
  refine cd_of (k := 1) T.d_row_word sc_row_word (fun _ _ _ _ _ _ us hl => match us, hl with | [_], _ => rfl) (SpD.len fun ds r h => by obtain ⟨_, _, e, _⟩ := h; rw [e]; rfl) ?_
  intro f cdv A outer s H vs Q E hr ⟨ds, r, hds, hf, kk⟩
  obtain ⟨ns, n, e1, e2, hg, hl, hn⟩ := hf
  subst e1 e2
  obtain ⟨v0, e, r0⟩ := rps1 hds
  subst e
  refine ⟨_, (pss_one (ps_ret (pe_joined (PJ.cons (pe_fmt (pe_ix (ixT K) (pv 0) pe_int (fun _ _ => rfl))) (PJ.cons pe_str (PJ.cons (pe_fmt (pe_d (cd_list_word T) hr (by decide) (pa_cons (pe_ix (ixT K) (pv 0) pe_int (fun _ _ => rfl)) pa_nil))) PJ.nil)))))), ?_⟩
  have h1 := numW_len hn
  have h2 := listW_len hg
  exact ret0 kk x0 (ev_js3 (a := numW n) (b := [42]) (c := listW ns) l_star (ev_fmtI (ev_at (j := 1) (ev_var rfl r0) rfl) hn) ev_str (ev_fmtS (ev_call (ea_cons (ev_at (j := 0) (ev_var rfl r0) rfl) ea_nil) ⟨_, rfl, rfl, hg, hl⟩) (by rw [S_len]; omega)) (by simp only [List.length_cons, List.length_nil]; omega)) rfl
theorem cd_part_word (T : Tx K mg) : Cd P w K mg base CX0 3 "part_word" (SpD K (fun ds r => ∃ (w : Str) (d : PyData), ds = [.str w, d] ∧ r = .str (S (wordFor w d)) ∧ partB w d = true)) := by
  refine cd_of (k := 2) T.d_part_word sc_part_word (fun _ _ _ _ _ _ us hl => match us, hl with | [_, _], _ => rfl) (SpD.len fun ds r h => by obtain ⟨_, _, e, _⟩ := h; rw [e]; rfl) ?_
  intro f cdv A outer s H vs Q E hr ⟨ds, r, hds, hf, kk⟩
  obtain ⟨w, d, e1, e2, hp⟩ := hf
  subst e1 e2
  obtain ⟨v0, v1, e, r0, r1⟩ := rps2 hds
  subst e
  obtain ⟨ach, kch, hch⟩ := T.k_CHAINS
  refine ⟨_, (pss_cons (ps_if (pt_cmpR (kIn K) (pv 0) (pe_k kch) (by first | exact nomark _ | rfl))
      (pss_one (ps_ret (pe_d (cd_row_word T) hr (by decide) (pa_cons (pv 1) pa_nil)))) pss_nil)
    (pss_cons (ps_if (pt_cmpR op_eq (pv 0) pe_str (nomark _))
      (pss_one (ps_ret (pe_joined (PJ.cons (pe_fmt (pe_ix (ixT K) (pv 1) pe_int (fun _ _ => rfl))) (PJ.cons pe_str (PJ.cons (pe_fmt (pe_ix (ixT K) (pv 1) pe_int (fun _ _ => rfl))) PJ.nil)))))) pss_nil)
    (pss_one (ps_ret (pe_ifExp (pt_cmpR op_eq (pv 0) pe_str (nomark _)) (pe_d (cd_list_word T) hr (by decide) (pa_cons (pv 1) pa_nil)) (pe_callTy (CallR.or call_str_int SkE.call_str_str) (by rfl) T.n_str (by decide +kernel) (pa_cons (pv 1) pa_nil))))))), ?_⟩
  unfold wordFor at kk
  unfold partB at hp
  refine if0 (et_is (et_of (ev_in (ev_var rfl r0) (es_of_t (ev_c hch)) rfl (fun e he => by
    rcases List.mem_cons.mp he with z | he
    · subst z; rfl
    · rw [List.mem_singleton.mp he]; rfl))) (in2 w _ _)) (fun hb H1 x1 => ?_) fun hb H1 x1 => ?_
  · have hb' : (decide (w = tFill) || decide (w = tSight)) = true := hb
    rw [if_pos hb'] at kk hp
    obtain ⟨ns, n, e, h1, h2, h3⟩ := rowB_some hp
    subst e
    have hg := lotI_gr h1 (by decide) (by decide)
    refine ret0 kk x1 (ev_call (ea_cons (ev_var rfl (x1.rp r1)) ea_nil) ⟨ns, n, rfl, rfl, hg.1, by omega, by omega, by unfold HI; omega⟩) ?_
    show PyData.str (S (rowW ns n)) = .str (S (rowW ((intsOf (ns.map .int)).getD []) n))
    rw [tup_ints]
  · have hb' : ¬ (decide (w = tFill) || decide (w = tSight)) = true := fun z => Bool.false_ne_true (hb.symm.trans z)
    rw [if_neg hb'] at kk hp
    replace r0 := x1.rp r0
    replace r1 := x1.rp r1
    refine if0 (et_of (ev_eqS (ev_var rfl r0) ev_str)) (fun hb H2 x2 => ?_) fun hb H2 x2 => ?_
    · rw [if_pos (show w = tMatch from of_decide_eq_true hb)] at kk hp
      obtain ⟨a, b, e, h1, h2, h3, h4⟩ := tieB_some hp
      subst e
      have l1 := numW_len ⟨h1, h2⟩
      have l2 := numW_len ⟨h3, h4⟩
      exact ret0 kk (x1.trans x2) (ev_js3 (a := numW a) (b := [45]) (c := numW b) l_dash (ev_fmtI (ev_at (j := 0) (ev_var rfl (x2.rp r1)) rfl) ⟨h1, h2⟩) ev_str (ev_fmtI (ev_at (j := 1) (ev_var rfl (x2.rp r1)) rfl) ⟨h3, h4⟩) (by simp only [List.length_cons, List.length_nil]; omega)) rfl
    · rw [if_neg (show ¬ w = tMatch from of_decide_eq_false hb)] at kk hp
      replace r0 := x2.rp r0
      replace r1 := x2.rp r1
      by_cases hw : w = tPlan
      · rw [if_pos hw] at kk hp
        obtain ⟨ns, e, h1⟩ := lotB_some hp
        subst e
        have hg := lotI_gr h1 (by decide) (by decide)
        refine ret0 kk (x1.trans x2) (ev_is (ev_if (e := .none) (et_of (ev_eqS (ev_var rfl r0) ev_str)) (fun _ => (ev_call (ea_cons (ev_var rfl r1) ea_nil) ⟨ns, rfl, rfl, hg.1, by omega⟩)) fun h => ?_) (if_pos (decide_eq_true hw))) ?_
        · exact absurd hw (of_decide_eq_false h)
        · show PyData.str (S (listW ns)) = .str (S (listW ((intsOf (ns.map .int)).getD [])))
          rw [tup_ints]
      · rw [if_neg hw] at kk hp
        obtain ⟨n, e, hg⟩ := great_gr hp
        subst e
        exact ret0 kk (x1.trans x2) (ev_is (ev_if (d := .none) (et_of (ev_eqS (ev_var rfl r0) ev_str)) (fun h => absurd (of_decide_eq_true h) hw) fun _ => (ev_strNo (ev_var rfl r1) hg)) (if_neg (fun z => hw (of_decide_eq_true z)))) rfl
end
end Fd
-- Xx
/-! Errors with what they keep. -/
namespace Fd
open PySem PySem.Spec PyProof.Rows L2
/-- Refused.__init__ on a fresh exception at a -/
def spInit (K : PySem.W.Frag) : Sp := fun vs H Q _ => ∃ (a C : Addr) (v : V), vs = [.ref a, v] ∧ OexC K C ∧ PySem.W.findIn K (.ref C) "what" = some none ∧ H a = some (exo a C none) ∧
  ∀ dx, H dx = none → dx ≠ a → Q .non (upd (upd H dx (exd dx [("what", v)])) a (exo a C (some dx)))
/-- a class of errors, by name -/
structure Exn (K : PySem.W.Frag) (mg : Str → Option Value) (x : Str) : Prop where
  ex : ∃ (C fI : Addr) (fd : FuncData), mg x = some (.ref C) ∧ OexC K C ∧ PySem.W.findIn K (.ref C) "what" = some none ∧ PySem.W.findIn K (.ref C) "__init__" = some (some (.ref fI)) ∧ PySem.W.typeIn K (.ref fI) = some (.type "function") ∧
    Fun K "__init__" "Refused.__init__" s_Refused___init__ fI fd ∧ XfC K C
/-- .. and what they stand on -/
structure ExB (K : PySem.W.Frag) (mg : Str → Option Value) : Prop where
  vE : mg "ValueError" = none
  vV : PySem.W.findCls K (.type "ValueError") (.type "type") "__init__" = some (.val (.builtin "ValueError.__init__"))
section
variable {P : Program} {w : World} {K : PySem.W.Frag} {mg : Str → Option Value} {base : Heap}
theorem ok_init {fI : Addr} {fd : FuncData} (B : ExB K mg) (F : Fun K "__init__" "Refused.__init__" s_Refused___init__ fI fd) : FnOk P w K mg base CX0 1 fI fd ["self", "what"] (spInit K) := by
  refine F.ok sc_Refused___init__ (fun vs H Q E h => ?_) (fun cdv A outer s H vs Q E hr h => ⟨_, pss_cons (ps_expr (pe_veinit (by rfl) B.vE B.vV (pa_cons (pv 0) (pa_cons (pv 1) pa_nil)))) (pss_one (ps_ost (pv 0) (pv 1))), ?_⟩)
  · obtain ⟨a, C, v, e, _⟩ := h
    rw [e]
    rfl
  · obtain ⟨a, C, v, e, T, n, ha, k⟩ := h
    subst e
    refine ⟨_, rfl, _, rfl, a, C, [v], rfl, (show 1 ≤ 1000 by decide), T, ha, ?_⟩
    refine ⟨_, rfl, _, rfl, a, C, rfl, T, n, .inl ⟨ha, fun dx h1 h2 => ?_⟩⟩
    exact k dx h1 h2
theorem init_binds {fI : Addr} {fd : FuncData} (F : Fun K "__init__" "Refused.__init__" s_Refused___init__ fI fd) : Binds K fd ["self", "what"] [] :=
  F.binds fun _ _ _ _ _ _ us hl => match us, hl with | [_, _], _ => rfl
end
/-- raise x(e), x a class of errors -/
def tRz (K : PySem.W.Frag) (mg : Str → Option Value) (x : Str) (W : WX) (ta : TA) : TS := fun _ σ H => ∃ C, mg x = some (.ref C) ∧ tMkO C (spInit K) [] ta σ H (fun cls d H' => W cls d σ H')
theorem ps_rz {X : Cx} {W : WX} {x : Str} {e : Expr} {es : List Expr} {ta : TA} {p pos pos2 : Pos} {j : Nat} (T : Exn X.K X.mg x) (B : ExB X.K X.mg) (hr : Room j X.A) (hj : 2 ≤ j) (tk : Takes X W) (ha : PA X (e :: es) ta) (hc : X.calm = true := by rfl) (hg : Gl X x := by rfl)
    (hdb : (x == ("__debug__" : Str)) = false := by decide) (he : starEach (e :: es) X.env = (false, eval e X.env) :: starEach es X.env := by rfl) (hpl : (backTo pos (starEach es X.env)).any (·.1) = false := by rfl) :
    PS X (.Raise (some (.Call (.Name x p) (e :: es) [] pos)) none pos2) (tRz X.K X.mg x W ta) := by
  refine ⟨fun pins s σ H D I h => ?_⟩
  obtain ⟨C', hm', h⟩ := h
  obtain ⟨C, fI, fd, hm, T1, T2, T3, T4, F, _⟩ := T.ex
  rw [hm] at hm'
  cases hm'
  exact (ps_raise hc tk (pmk_oex T1 T3 T4 (ok_init B F) (hr.mono hj) (init_binds F) .nil pass0 hg hm ha hdb he hpl)).run pins s σ H D I h
/-- an error x that keeps w leaves -/
def OutX (K : PySem.W.Frag) (mg : Str → Option Value) (Wp : Hp → Prop) (x : Str) (w : PyData) (F : Value → Option Addr → Hp → Prop) : Prop :=
  ∀ C dd v H', mg x = some (.ref C) → Wp H' → H' dd = some (.xd [("what", v)]) → Rp K H' w v → F (.ref C) (some dd) H'
theorem OutX.imp {K : PySem.W.Frag} {mg : Str → Option Value} {Wp Wq : Hp → Prop} {x : Str} {w : PyData} {F : Value → Option Addr → Hp → Prop} (h : OutX K mg Wp x w F) (i : ∀ H, Wq H → Wp H) : OutX K mg Wq x w F := fun C dd v H' a b c d => h C dd v H' a (i H' b) c d
section
variable {W : Wd} {K : PySem.W.Frag} {mg : Str → Option Value} {σ : L2.St} {H : Hp} {te : TE} {t : TA} {w r : PyData} {x : Str} {Wr : WX} {D : Ends} {ds : List PyData}
theorem st_rz (T : Exn K mg x) (j : W.J H) (h : Ev W K te σ H w) (kE : OutX K mg (Wx W H) x w (fun c d H' => Wr c d σ H')) : tRz K mg x Wr (tCons te tNil) D σ H := by
  obtain ⟨C, fI, fd, hm, T1, T2, _⟩ := T.ex
  refine ⟨C, hm, h.run j fun v H1 x1 hv => ⟨(show 1 ≤ 1000 by decide), fun a ha => ⟨a, C, v, rfl, T1, T2, upd_same, fun dx h1 h2 => ⟨rfl, dx, [("what", v)], upd_same, ?_, ?_, ?_⟩⟩⟩⟩
  · rw [upd_ne h2, upd_same]
  · rw [upd_ne h2] at h1
    exact h1
  · rw [upd_ne h2] at h1
    have sm : Same H1 (upd (del (upd (upd (upd H1 a (exo a C none)) dx (exd dx [("what", v)])) a (exo a C (some dx))) a) dx (.xd [("what", v)])) := fun b o e => by
      have n1 : b ≠ a := fun z => by rw [z, ha] at e; cases e
      have n2 : b ≠ dx := fun z => by rw [z, h1] at e; cases e
      rw [upd_ne n2, del_ne n1, upd_ne n1, upd_ne n2, upd_ne n1]
      exact e
    have y := Wx.same x1.2.1 sm
    exact kE C dx v _ hm (x1.trans y) upd_same (y.rp hv)
/-- what never comes back -/
def EvOut (W : Wd) (te : TE) (σ : L2.St) (H : Hp) : Prop := ∀ H1, Wx W H H1 → ∀ Q, te σ H1 Q
def EvOutA (W : Wd) (ta : TA) (σ : L2.St) (H : Hp) : Prop := ∀ H1, Wx W H H1 → ∀ Q, ta σ H1 Q
theorem out_ret (j : W.J H) (h : EvOut W te σ H) : tRet te D σ H := h H (Wx.refl j) _
theorem out_asg {g : TG} (j : W.J H) (h : EvOut W te σ H) : tAsg te g D σ H := h H (Wx.refl j) _
theorem out_drop (j : W.J H) (h : EvOut W te σ H) : tDrop te D σ H := h H (Wx.refl j) _
theorem out_arg {tr : TA} (h : EvOut W te σ H) : EvOutA W (tCons te tr) σ H := fun H1 x Q => h H1 x _
theorem out_arg2 {tr : TA} {p : VP W} (h : EvP te σ H p) (h2 : EvOutA W tr σ H) : EvOutA W (tCons te tr) σ H := fun H1 x Q => h H1 x _ fun v H2 x2 hv => h2 H2 (x.trans x2) _
theorem out_call {sp : Sp} {vs : List V} {E : XK} (h : EvOutA W t σ H) : EvOut W (tCall sp vs E t) σ H := fun H1 x Q => h H1 x _
theorem out_callS {sp : Sp} {E : L2.St → XK} (h : EvOutA W t σ H) : EvOut W (tCallS sp E t) σ H := fun H1 x Q => h H1 x _
/-- the promise of a def of data that hands back or refuses -/
def SpR (K : PySem.W.Frag) (mg : Str → Option Value) (f : List PyData → PyData ⊕ (Str × PyData) → Prop) : Sp := fun vs H Q E => ∃ ds o, Rps K H ds vs ∧ f ds o ∧ (∀ r, o = .inl r → ∀ v H', Same H H' → Rp K H' r v → Q v H') ∧
  ∀ x w, o = .inr (x, w) → OutX K mg (Same H) x w E
theorem SpR.len {f : List PyData → PyData ⊕ (Str × PyData) → Prop} {n : Nat} (h : ∀ ds r, f ds r → ds.length = n) : ∀ vs H Q E, SpR K mg f vs H Q E → vs.length = n := fun vs H Q E ⟨ds, r, h1, h2, _⟩ => by
  rw [h1.len, h ds r h2]
theorem ev_callR {f : List PyData → PyData ⊕ (Str × PyData) → Prop} (h : EvA W K t σ H ds) (hf : f ds (.inl r)) : Ev W K (tCallS (SpR K mg f) (WE Wr) t) σ H r := fun H1 y Q k =>
  h H1 y _ fun vs H2 x2 hs => ⟨ds, _, hs, hf, fun r' e v H3 s rr => (by cases e; exact k v H3 (x2.trans (Wx.same x2.2.1 s)) rr), fun x w e => (by cases e)⟩
theorem out_callR {f : List PyData → PyData ⊕ (Str × PyData) → Prop} (h : EvA W K t σ H ds) (hf : f ds (.inr (x, w))) (kE : OutX K mg (Wx W H) x w (fun c d H' => Wr c d σ H')) : EvOut W (tCallS (SpR K mg f) (WE Wr) t) σ H := fun H1 y Q =>
  h H1 y _ fun vs H2 x2 hs => ⟨ds, _, hs, hf, fun r e => (by cases e), fun x w e => by cases e; exact kE.imp fun H3 s => (y.trans x2).trans (Wx.same x2.2.1 s)⟩
end
end Fd
namespace Fd
open PySem PySem.Spec PyProof.Rows L2
/-- a method of Line, where it stands -/
def MAt (K : PySem.W.Frag) (mg : Str → Option Value) (m qual : Str) (st : Stmt) : Prop := ∃ (C f : Addr) (fd : FuncData), mg "Line" = some (.ref C) ∧ Meth K C m f ∧ Fun K m qual st f fd
structure LineC (K : PySem.W.Frag) (mg : Str → Option Value) : Prop where
  ex : ∃ (C fI : Addr) (fd : FuncData), mg "Line" = some (.ref C) ∧ Cls K C ∧ Mk K C fI ∧ Fun K "__init__" "Line.__init__" s_Line___init__ fI fd ∧ NoAttr K C "at" ∧ NoAttr K C "words" ∧ NoAttr K C "place"
structure Tz (K : PySem.W.Frag) (mg : Str → Option Value) : Prop extends Tx K mg where
  b : ExB K mg
  x_BadText : Exn K mg "BadText"
  x_WrongLine : Exn K mg "WrongLine"
  x_BadPaper : Exn K mg "BadPaper"
  x_TooMany : Exn K mg "TooMany"
  line : LineC K mg
  m_want : MAt K mg "want" "Line.want" s_Line_want
  m_is_over : MAt K mg "is_over" "Line.is_over" s_Line_is_over
  m_want_over : MAt K mg "want_over" "Line.want_over" s_Line_want_over
  m_take : MAt K mg "take" "Line.take" s_Line_take
  m_take_one : MAt K mg "take_one" "Line.take_one" s_Line_take_one
  m_take_number : MAt K mg "take_number" "Line.take_number" s_Line_take_number
section
variable {K : PySem.W.Frag} {mg : Str → Option Value} {H0 H : Hp} {te : TE} {σ : L2.St} {D : Ends} {o : PyData ⊕ (Str × PyData)} {x : Str} {d : PyData} {E : XK} {Q : VK}
theorem rz0 (T : Exn K mg x) (k2 : ∀ x w, o = .inr (x, w) → OutX K mg (Same H0) x w E) (x0 : Wx W0 H0 H) (h : Ev W0 K te σ H d) (e : o = .inr (x, d)) : tRz K mg x (fun cls d _ H => E cls d H) (tCons te tNil) D σ H :=
  st_rz (W := W0) T trivial h ((k2 x d e).imp fun H' y b o q => (x0.trans y).2.2 b o q (fun z => z))
theorem retR0 (k1 : ∀ r, o = .inl r → ∀ v H', Same H0 H' → Rp K H' r v → Q v H') (x0 : Wx W0 H0 H) (h : Ev W0 K te σ H d) (e : o = .inl d) (hD : D.rt = Q := by rfl) : tRet te D σ H := ret0 (k1 d e) x0 h rfl hD
/-- out of a def by a def's error -/
theorem outX0 {f : List PyData → PyData ⊕ (Str × PyData) → Prop} {t : TA} {ds : List PyData} {w : PyData} (k2 : ∀ x w, o = .inr (x, w) → OutX K mg (Same H0) x w E) (x0 : Wx W0 H0 H) (h : EvA W0 K t σ H ds) (hf : f ds (.inr (x, w))) (e : o = .inr (x, w)) :
    EvOut W0 (tCallS (SpR K mg f) (WE (fun cls d _ H => E cls d H)) t) σ H := out_callR h hf ((k2 x w e).imp fun H' y b o q => (x0.trans y).2.2 b o q (fun z => z))
end
end Fd
-- D6
namespace Fd
open PySem PySem.Spec PyProof.Rows L2
def wordD : PyData → List Nat
  | .int n => numW n
  | .str s => s.cps.toList
  | _ => []
def wordOk : PyData → Prop
  | .int n => gr n
  | .str _ => True
  | _ => False
/-- text_of([[..]]) -/
def spText (K : PySem.W.Frag) : Sp := fun vs H Q _ => ∃ (p q : Addr) (xs : List V) (ds : List PyData), vs = [.ref p] ∧ H p = some (.lst [.ref q]) ∧ H q = some (.lst xs) ∧ Rps K H ds xs ∧ (∀ d ∈ ds, wordOk d ∧ (wordD d).length ≤ 2000) ∧ ds.length ≤ 4000 ∧
  ∀ v H', Same H H' → Rp K H' (.str (S (TL.joinL [32] (ds.map wordD)))) v → Q v H'
theorem ev_text {W : Wd} {K : PySem.W.Frag} {σ : L2.St} {H : Hp} {ta : TE} {ds : List PyData} {E : XK} (h : EvL W K ta σ H ds) (hok : ∀ d ∈ ds, wordOk d ∧ (wordD d).length ≤ 2000) (hl : ds.length ≤ 4000) :
    Ev W K (tCall (spText K) [] E (tCons (tLst (tCons ta tNil)) tNil)) σ H (.str (S (TL.joinL [32] (ds.map wordD)))) := fun H1 x Q k =>
  h H1 x _ fun v H2 x2 ⟨q, xs, e, hq, nq, hs⟩ => ⟨(by decide : 1 ≤ sizeLine), fun p hp => by
    have x3 := Wx.new (o := .lst [v]) x2.2.1 hp
    refine ⟨p, q, xs, ds, rfl, by rw [e]; exact upd_same, x3.2.2 _ _ hq nq, x3.rps hs, hok, hl, fun v' H' s r => k v' H' ((x2.trans x3).trans (Wx.same x3.2.1 s)) r⟩⟩
/-- a paper's text -/
def paperW : PyData → List Nat
  | .tuple (.str w :: r) => if w = tCrowd then (match r with
      | [.int s, .tuple ls] => TL.joinL [32] [w.cps.toList, numW s, listW ((intsOf ls).getD [])]
      | _ => []) else match r with
      | [.tuple ds] => TL.joinL [32] (w.cps.toList :: ds.map (wordFor w))
      | _ => []
  | _ => []
theorem paperW_crowd {s : Int} {ns : List Int} : paperW (.tuple [.str tCrowd, .int s, .tuple (ns.map .int)]) = TL.joinL [32] [tCrowd.cps.toList, numW s, listW ns] := by
  unfold paperW
  dsimp only
  rw [if_pos rfl, tup_ints]
theorem paperW_rest {w : Str} {ds : List PyData} (h : ¬ w = tCrowd) : paperW (.tuple [.str w, .tuple ds]) = TL.joinL [32] (w.cps.toList :: ds.map (wordFor w)) := by
  unfold paperW
  dsimp only
  rw [if_neg h]
theorem wordFor_len {w : Str} {d : PyData} (h : partB w d = true) : (wordFor w d).length ≤ 2000 := by
  unfold partB at h
  unfold wordFor
  by_cases hc : (decide (w = tFill) || decide (w = tSight)) = true
  · rw [if_pos hc] at h ⊢
    obtain ⟨ns, n, e, h1, h2, h3⟩ := rowB_some h
    subst e
    have hg := lotI_gr h1 (by decide) (by decide)
    have l1 := listW_len hg.1
    have l2 := numW_len (n := n) ⟨by omega, by unfold HI; omega⟩
    show (rowW ((intsOf (ns.map .int)).getD []) n).length ≤ _
    rw [tup_ints]
    unfold rowW
    rw [List.length_append, List.length_append]
    have := hg.2.1
    simp only [List.length_cons, List.length_nil]
    omega
  · rw [if_neg hc] at h ⊢
    by_cases hm : w = tMatch
    · rw [if_pos hm] at h ⊢
      obtain ⟨a, b, e, h1, h2, h3, h4⟩ := tieB_some h
      subst e
      have l1 := numW_len ⟨h1, h2⟩
      have l2 := numW_len ⟨h3, h4⟩
      show (tieW a b).length ≤ _
      unfold tieW
      rw [List.length_append, List.length_append]
      simp only [List.length_cons, List.length_nil]
      omega
    · rw [if_neg hm] at h ⊢
      by_cases hp : w = tPlan
      · rw [if_pos hp] at h ⊢
        obtain ⟨ns, e, h1⟩ := lotB_some h
        subst e
        have hg := lotI_gr h1 (by decide) (by decide)
        have l1 := listW_len hg.1
        show (listW ((intsOf (ns.map .int)).getD [])).length ≤ _
        rw [tup_ints]
        have := hg.2.1
        omega
      · rw [if_neg hp] at h ⊢
        obtain ⟨n, e, hg⟩ := great_gr h
        subst e
        have := numW_len hg
        show (numW n).length ≤ _
        omega
/-- what a right paper is made of -/
theorem paper_cases {d : PyData} (h : paperB d = true) : (∃ (s : Int) (ns : List Int), d = .tuple [.str tCrowd, .int s, .tuple (ns.map .int)] ∧ 0 ≤ s ∧ s ≤ 1 ∧ lotI ns 80 0 HI = true) ∨
    ∃ (w : Str) (ds : List PyData), d = .tuple [.str w, .tuple ds] ∧ ¬ w = tCrowd ∧ restB w ds = true := by
  unfold paperB at h
  split at h
  · rename_i w r
    by_cases hw : w = tCrowd
    · rw [if_pos hw] at h
      unfold crowdB at h
      split at h
      · rename_i s l e
        injection e with e1 e2
        subst e2
        rw [Bool.and_eq_true] at h
        obtain ⟨i, e3, h1, h2⟩ := wholeInt h.1
        obtain ⟨ns, e4, h3⟩ := lotB_some h.2
        subst e3 e4 hw
        exact .inl ⟨i, ns, rfl, h1, h2, h3⟩
      · cases h
    · rw [if_neg hw] at h
      split at h
      · exact .inr ⟨w, _, rfl, hw, h⟩
      · cases h
  · cases h
theorem rest_part {w : Str} {ds : List PyData} (h : restB w ds = true) : (∀ d ∈ ds, partB w d = true) ∧ ds.length ≤ 3000 ∧ w.length ≤ 7 := by
  unfold restB at h
  unfold partB
  by_cases hc : (decide (w = tFill) || decide (w = tSight)) = true
  · rw [if_pos hc] at h
    simp only [if_pos hc]
    unfold chainB at h
    rw [Bool.and_eq_true, Bool.and_eq_true, List.all_eq_true, decide_eq_true_eq] at h
    refine ⟨h.2.1, by omega, ?_⟩
    rw [Bool.or_eq_true, decide_eq_true_eq, decide_eq_true_eq] at hc
    rcases hc with e | e <;> (rw [e]; decide +kernel)
  · rw [if_neg hc] at h
    simp only [if_neg hc]
    by_cases hm : w = tMatch
    · rw [if_pos hm] at h
      simp only [if_pos hm]
      unfold tiesB at h
      rw [Bool.and_eq_true, Bool.not_eq_true', Bool.or_eq_false_iff, decide_eq_false_iff_not, Bool.not_eq_false', List.all_eq_true] at h
      exact ⟨h.1.2, by omega, by rw [hm]; decide +kernel⟩
    · rw [if_neg hm] at h
      simp only [if_neg hm]
      by_cases hp : w = tPlan
      · rw [if_pos hp] at h
        simp only [if_pos hp]
        rw [Bool.and_eq_true, List.all_eq_true, decide_eq_true_eq] at h
        exact ⟨h.2, by omega, by rw [hp]; decide +kernel⟩
      · rw [if_neg hp] at h
        simp only [if_neg hp]
        rw [Bool.and_eq_true, Bool.and_eq_true, List.all_eq_true, decide_eq_true_eq, decide_eq_true_eq] at h
        exact ⟨h.2.2, by omega, by rw [h.1]; decide +kernel⟩
section
variable {P : Program} {w : World} {K : PySem.W.Frag} {mg : Str → Option Value} {base : Heap}
theorem cd_text_of (T : Tx K mg) : Cd P w K mg base CX0 1 "text_of" (spText K) := by
  refine cd_of (k := 0) T.d_text_of sc_text_of (fun _ _ _ _ _ _ us hl => match us, hl with | [_], _ => rfl) (fun vs H Q E h => by obtain ⟨p, q, xs, ds, e, _⟩ := h; rw [e]; rfl) ?_
  intro f cdv A outer s H vs Q E hr ⟨p, q, xs, ds, e, hp, hq, hs, hok, hl, kk⟩
  subst e
  refine ⟨_, (pss_one (ps_ret (kJoin K pe_str (pe_lc (own := [("line", 2)]) rfl sc_text_of.nd (pi_list (pv 0)) (blkOk_by (N := N_text_of) (sc := defScope s_text_of) (by decide +kernel)) (fun _ _ _ _ _ => (pg_name (i := 2) sc_text_of.nd rfl (Or.inl rfl))) (fun _ _ _ _ _ => pts_nil) (fun _ _ _ _ _ => (kJoin K pe_str (by exact (pe_lc (own := [("part", 1)]) rfl sc_text_of.nd (pi_listK K (pv 2)) (blkOk_by (by first | rfl | decide +kernel)) (fun _ _ _ _ _ => (pg_name (i := 1) sc_text_of.nd rfl (Or.inl rfl))) (fun _ _ _ _ _ => pts_nil) (fun _ _ _ _ _ => (pe_callTy (CallR.or call_str_int SkE.call_str_str) (by rfl) T.n_str (by decide +kernel) (pa_cons (pv 1) pa_nil))))))))))), ?_⟩
  have hin : Ev W0 K _ _ H (.str (S (TL.joinL [32] (ds.map wordD)))) := ev_joinW (c := 32) (k := 2000) (ta := tC (.str (Str.ofString " "))) (tb := tLc (iList K (tVar 2)) (gName 1) tYes (tCB (fun xs H Q => (∃ i, xs = [.int i] ∧ i.natAbs.log2 < 1920 ∧ Q (.str (toString i)) H) ∨ ∃ a, xs = [.str a] ∧ Q (.str a) H) (tCons (tVar 1) tNil)) [1]) (σ := [some (.ref p), none, some (.ref q)]) (ws := ds.map wordD) l_space ev_str (es_of_l (by
    have e : (ds.map fun d => PyData.str (S (wordD d))) = (ds.map wordD).map fun w => .str (S w) := by rw [List.map_map]; rfl
    rw [← e]
    refine el_map (src_list (evp_var (p := VP.r W0 K ds) rfl ⟨q, xs, rfl, ⟨SqL.of hq, fun z => z⟩, hs⟩)) (by omega) fun d hd => lcs_name fun H2 x x2 r => ?_
    have h1 := (hok d hd).1
    cases d with
    | int n => exact ev_strNo (ev_var rfl r) h1
    | str s =>
      rw [show S (wordD (.str s)) = s from S_tl s]
      exact ev_strSo (ev_var rfl r)
    | none => exact h1.elim
    | bool b => exact h1.elim
    | tuple b => exact h1.elim
    | list b => exact h1.elim
    | dict b => exact h1.elim)) (fun w hw => by
      obtain ⟨d, hd, e⟩ := List.mem_map.mp hw
      rw [← e]
      exact (hok d hd).2) (by rw [List.length_map]; omega)
  have hjl : (TL.joinL [32] (ds.map wordD)).length ≤ 2001 * 4000 := by
    refine Nat.le_trans (join_le 32 2000 _ fun w hw => ?_) ?_
    · obtain ⟨d, hd, e⟩ := List.mem_map.mp hw
      rw [← e]
      exact (hok d hd).2
    · rw [List.length_map]
      exact Nat.mul_le_mul_left _ hl
  refine ret0 kk x0 (ev_joinW (c := 10) (k := 2001 * 4000) (ws := [TL.joinL [32] (ds.map wordD)]) l_line ev_str (es_of_l (el_lcV (xs := [.ref q]) (evp_var rfl ⟨p, rfl, SqL.of hp, fun z => z⟩) (show 1 ≤ 10000000 by decide) rfl fun j v e h1 h2 => ?_)) (fun w hw => ?_) (by simp)) rfl
  · match j with
    | 0 =>
      cases h1
      cases h2
      exact hin
    | j + 1 => cases h1
  · rw [List.mem_singleton.mp hw]
    exact hjl
theorem cd_fail (Z : Tz K mg) : Cd P w K mg base (L2.CX P w) 4 "fail" (SpR K mg (fun ds r => ∃ i j : Int, ds = [.int i, .int j] ∧ r = .inr ("WrongLine", .tuple [.int i, .int j]))) := by
  have T : Tx K mg := Z.toTx
  refine cd_ofX (k := 3) T.d_fail sc_fail (fun _ _ _ _ _ _ us hl => match us, hl with | [_, _], _ => rfl) (SpR.len fun ds r h => by obtain ⟨_, _, e, _⟩ := h; rw [e]; rfl) ?_
  intro f cdv A outer s H vs Q E hr ⟨ds, r, hds, hf, k1, k2⟩
  obtain ⟨i, j, e1, e2⟩ := hf
  subst e1 e2
  obtain ⟨v0, v1, e, r0, r1⟩ := rps2 hds
  subst e
  refine ⟨_, (pss_one (ps_rz Z.x_WrongLine Z.b hr (by decide) (takes_of rfl rfl rfl rfl) (pa_cons (pe_tup (pa_cons (pv 0) (pa_cons (pv 1) pa_nil))) pa_nil))), ?_⟩
  exact rz0 Z.x_WrongLine k2 x0 (ev_tup (ea_cons (ev_var rfl r0) (ea_cons (ev_var rfl r1) ea_nil))) rfl
theorem cd_paper_text (Z : Tz K mg) : Cd P w K mg base (L2.CX P w) 8 "paper_text" (SpR K mg (fun ds o => ∃ d, ds = [d] ∧ o = (if paperB d = true then .inl (.str (S (paperW d))) else .inr ("BadPaper", .int 0)))) := by
  have T : Tx K mg := Z.toTx
  refine cd_ofX (k := 7) T.d_paper_text sc_paper_text (fun _ _ _ _ _ _ us hl => match us, hl with | [_], _ => rfl) (SpR.len fun ds r h => by obtain ⟨_, e, _⟩ := h; rw [e]; rfl) ?_
  intro f cdv A outer s H vs Q E hr ⟨ds, r, hds, hf, k1, k2⟩
  obtain ⟨d, e1, e2⟩ := hf
  subst e1 e2
  obtain ⟨v0, e, r0⟩ := rps1 hds
  subst e
  refine ⟨_, (pss_cons (ps_if (pt_not (pt_val (pe_d (cd_is_paper T) hr (by decide) (pa_cons (pv 0) pa_nil))))
      (pss_one (ps_rz Z.x_BadPaper Z.b hr (by decide) (takes_of rfl rfl rfl rfl) (pa_cons pe_int pa_nil))) pss_nil)
    (pss_cons (ps_set (i := 1) sc_paper_text.nd rfl (Or.inr rfl) (pe_ix (ixT K) (pv 0) pe_int (fun _ _ => rfl)))
    (pss_cons (ps_if (pt_cmpR op_eq (pv 1) pe_str (nomark _))
      (pss_one (ps_ret (pe_d (cd_text_of T) hr (by decide) (pa_cons (pe_lst (pa_cons (pe_lst (pa_cons (pv 1) (pa_cons (pe_ix (ixT K) (pv 0) pe_int (fun _ _ => rfl)) (pa_cons (pe_d (cd_list_word T) hr (by decide) (pa_cons (pe_ix (ixT K) (pv 0) pe_int (fun _ _ => rfl)) pa_nil)) pa_nil)))) pa_nil)) pa_nil)))) pss_nil)
    (pss_one (ps_ret (pe_d (cd_text_of T) hr (by decide) (pa_cons (pe_lst (pa_cons (pe_lst (pa_cons (pv 1) (StX.pa_star (pe_lc (own := [("part", 2)]) rfl sc_paper_text.nd (pi_tup (pe_ix (ixT K) (pv 0) pe_int (fun _ _ => rfl))) (blkOk_by (N := N_paper_text) (sc := defScope s_paper_text) (by decide +kernel)) (fun _ _ _ _ _ => (pg_name (i := 2) sc_paper_text.nd rfl (Or.inl rfl))) (fun _ _ _ _ _ => pts_nil) (fun _ _ _ _ _ => (pe_d (cd_part_word T) hr (by decide) (pa_cons (pv 1) (pa_cons (pv 2) pa_nil))))) pa_nil))) pa_nil)) pa_nil))))))), ?_⟩
  refine if0 (et_not (et_B (ev_call (ea_cons (ev_var rfl r0) ea_nil) ⟨_, rfl, rfl⟩))) (fun hb H1 x1 => ?_) fun hb H1 x1 => ?_
  · rw [Bool.not_eq_true'] at hb
    exact rz0 Z.x_BadPaper k2 x1 ev_int (if_neg (fun z => Bool.false_ne_true (hb.symm.trans z)))
  · rw [Bool.not_eq_false'] at hb
    replace r0 := x1.rp r0
    rcases paper_cases hb with ⟨s, ns, e, h1, h2, h3⟩ | ⟨w, ds, e, hw, h⟩
    · subst e
      have hg := lotI_gr h3 (by decide) (by decide)
      have gs : gr s := ⟨h1, by unfold HI; omega⟩
      have l1 := listW_len hg.1
      have l2 := numW_len gs
      refine set0 K (ev_at (j := 0) (ev_var rfl r0) rfl) fun v1 H2 x2 r1 => ?_
      replace r0 := x2.rp r0
      refine if0 (et_of (ev_eqS (ev_var rfl r1) ev_str)) (fun hb2 H3 x3 => ?_) fun hb2 => absurd rfl (of_decide_eq_false hb2)
      replace r0 := x3.rp r0
      refine retR0 k1 ((x1.trans x2).trans x3) (ev_text (ds := [.str tCrowd, .int s, .str (S (listW ns))]) (el_lst (ea_cons (ev_var rfl (x3.rp r1)) (ea_cons (ev_at (j := 1) (ev_var rfl r0) rfl) (ea_cons (ev_call (ea_cons (ev_at (j := 2) (ev_var rfl r0) rfl) ea_nil) ⟨ns, rfl, rfl, hg.1, by omega⟩) ea_nil)))) (fun d hd => ?_) (by simp)) ?_
      · simp only [List.mem_cons, List.not_mem_nil, or_false] at hd
        rcases hd with e | e | e
        · subst e
          exact ⟨trivial, by decide +kernel⟩
        · subst e
          exact ⟨gs, by show (numW s).length ≤ _; omega⟩
        · subst e
          exact ⟨trivial, by show (listW ns).length ≤ _; omega⟩
      · rw [if_pos hb]
        rw [paperW_crowd]
        rfl
    · subst e
      have hr := rest_part h
      refine set0 K (ev_at (j := 0) (ev_var rfl r0) rfl) fun v1 H2 x2 r1 => ?_
      replace r0 := x2.rp r0
      refine if0 (et_of (ev_eqS (ev_var rfl r1) ev_str)) (fun hb2 => absurd (of_decide_eq_true hb2) hw) fun hb2 H3 x3 => ?_
      replace r0 := x3.rp r0
      replace r1 := x3.rp r1
      have hl := hr.2.1
      refine retR0 k1 ((x1.trans x2).trans x3) (ev_text (ds := .str w :: (ds.map (fun d => .str (S (wordFor w d))) ++ [])) (el_lst (ea_cons (ev_var rfl r1) (ea_star (es_of_l (el_map (src_tup (ev_at (j := 1) (ev_var rfl r0) rfl)) (by omega) fun d hd => lcs_name fun H4 x x4 r => ev_call (ea_cons (ev_var rfl (x4.rp r1)) (ea_cons (ev_var rfl r) ea_nil)) ⟨w, d, rfl, rfl, hr.1 d hd⟩)) ea_nil)) (by rw [List.append_nil, List.length_cons, List.length_map]; omega)) (fun d hd => ?_) (by rw [List.append_nil, List.length_cons, List.length_map]; omega)) ?_
      · rw [List.append_nil] at hd
        rcases List.mem_cons.mp hd with e | hd
        · subst e
          exact ⟨trivial, Nat.le_trans (by rw [← S_tl w] at hr; exact hr.2.2) (by decide)⟩
        · obtain ⟨c, hc, e⟩ := List.mem_map.mp hd
          subst e
          exact ⟨trivial, wordFor_len (hr.1 c hc)⟩
      · rw [if_pos hb]
        rw [paperW_rest hw, List.append_nil, List.map_cons, List.map_map]
        rfl
end
end Fd
-- Ln
/-! A line that is read word by word. -/
namespace Fd
open PySem PySem.Spec PyProof.Rows L2
def lineFs (q : Addr) (p : Nat) : List (Str × V) := [("at", .int 0), ("words", .ref q), ("place", .int (p : Nat))]
def wordsV (ws : List (List Nat)) : List V := ws.map fun w => .str (S w)
def LineAt (mg : Str → Option Value) (H : Hp) (a q : Addr) (p : Nat) (ws : List (List Nat)) : Prop :=
  ∃ C dx : Addr, mg "Line" = some (.ref C) ∧ H a = some (.ins C dx (lineFs q p)) ∧ H q = some (.lst (wordsV ws))
def Others (a : Addr) (H H' : Hp) : Prop := ∀ b o, b ≠ a → H b = some o → H' b = some o
theorem Others.refl {a : Addr} {H : Hp} : Others a H H := fun _ _ _ h => h
theorem Others.trans {a : Addr} {H H1 H2 : Hp} (x : Others a H H1) (y : Others a H1 H2) : Others a H H2 := fun b o n h => y b o n (x b o n h)
theorem Others.same {a : Addr} {H H1 : Hp} (x : Same H H1) : Others a H H1 := fun b o _ h => x b o h
theorem Others.keepT {a : Addr} {H H1 : Hp} (x : Others a H H1) {o : HO} (h : H a = some o) (l : Loc o = true) : KeepT H H1 := by
  refine ⟨fun b xs e => x b _ (fun z => ?_) e, fun b ob u e => x b _ (fun z => ?_) e⟩
  · rw [z, h] at e
    cases e
    cases l
  · rw [z, h] at e
    cases e
    cases l
section
variable {mg : Str → Option Value} {a q : Addr} {p : Nat} {ws : List (List Nat)} {H H' : Hp}
theorem LineAt.ne (L : LineAt mg H a q p ws) : q ≠ a := fun z => by
  obtain ⟨C, dx, _, h1, h2⟩ := L
  rw [z, h1] at h2
  cases h2
theorem LineAt.same (L : LineAt mg H a q p ws) (s : Same H H') : LineAt mg H' a q p ws := by
  obtain ⟨C, dx, h0, h1, h2⟩ := L
  exact ⟨C, dx, h0, s _ _ h1, s _ _ h2⟩
theorem LineAt.keepT (L : LineAt mg H a q p ws) (x : Others a H H') : KeepT H H' := by
  obtain ⟨C, dx, h0, h1, h2⟩ := L
  exact x.keepT h1 rfl
theorem LineAt.inj {q' : Addr} {p' : Nat} {ws' : List (List Nat)} (L : LineAt mg H a q p ws) (L' : LineAt mg H a q' p' ws') : q' = q ∧ p' = p ∧ ws' = ws := by
  obtain ⟨C, dx, h0, h1, h2⟩ := L
  obtain ⟨C', dx', h0', h1', h2'⟩ := L'
  rw [h1] at h1'
  unfold lineFs at h1'
  have e1 : q' = q ∧ p' = p := by
    injection h1' with h
    injection h with _ _ h
    simp only [List.cons.injEq, Prod.mk.injEq, V.ref.injEq, V.int.injEq, true_and, and_true, Int.ofNat_inj] at h
    exact ⟨h.1.symm, h.2.symm⟩
  refine ⟨e1.1, e1.2, ?_⟩
  rw [e1.1, h2] at h2'
  injection h2' with h
  injection h with h
  unfold wordsV at h
  exact (List.map_inj_right (fun x y e => by injection e with e; exact S_eq.mp e)).mp h.symm
end
/-- the world of a line that stands at its place p -/
def LW (mg : Str → Option Value) (a q : Addr) (p : Nat) (ws : List (List Nat)) : Wd := ⟨fun b => b = a ∨ b = q, fun H => LineAt mg H a q p ws, fun H H' ⟨C, dx, h0, h1, h2⟩ h => ⟨C, dx, h0, h a _ h1 fun _ => .inl rfl, h q _ h2 fun _ => .inr rfl⟩, fun H b ⟨C, dx, h0, h1, h2⟩ m => by
  rcases m with e | e
  · subst e
    exact ⟨_, h1, fun xs z => (by cases z), fun ob u z => (by cases z)⟩
  · subst e
    exact ⟨_, h2, fun xs z => (by cases z), fun ob u z => (by cases z)⟩⟩
section
variable {mg : Str → Option Value} {a q : Addr} {p : Nat} {ws : List (List Nat)} {H H' : Hp}
theorem lw_others (x : Wx (LW mg a q p ws) H H') : Others a H H' := fun b o n e => by
  obtain ⟨⟨C, dx, h0, h1, h2⟩, ⟨C', dx', h0', h1', h2'⟩, k⟩ := x
  by_cases e2 : b = q
  · subst e2
    rw [h2] at e
    cases e
    exact h2'
  · exact k b o e fun m => m.elim n e2
theorem lw_of (L : LineAt mg H a q p ws) (x : Others a H H') (L' : LineAt mg H' a q p ws) : Wx (LW mg a q p ws) H H' := ⟨L, L', fun b o e n => x b o (fun z => n (.inl z)) e⟩
end
/-- what a line's method leaves: what it hands back and the place behind it, or the wrong word -/
inductive LnOut where
  | ok (r : PyData) (p : Nat)
  | bad (j : Int)
def wl (i j : Int) : PyData := .tuple [.int i, .int j]
def SpLn (K : PySem.W.Frag) (mg : Str → Option Value) (f : Nat → List (List Nat) → List PyData → LnOut → Prop) : Sp := fun vs H Q E => ∃ a q p ws ds us o, vs = .ref a :: us ∧ LineAt mg H a q p ws ∧ Rps K H ds us ∧ f p ws ds o ∧
  (∀ r p', o = .ok r p' → ∀ v H', Others a H H' → LineAt mg H' a q p' ws → Rp K H' r v → Q v H') ∧ ∀ j, o = .bad j → OutX K mg (Others a H) "WrongLine" (wl 0 j) E
theorem SpLn.len {K : PySem.W.Frag} {mg : Str → Option Value} {f : Nat → List (List Nat) → List PyData → LnOut → Prop} {n : Nat} (h : ∀ p ws ds r, f p ws ds r → ds.length = n) : ∀ vs H Q E, SpLn K mg f vs H Q E → vs.length = n + 1 := fun vs H Q E ⟨a, q, p, ws, ds, us, o, e, _, h1, h2, _⟩ => by
  rw [e, List.length_cons, h1.len, h _ _ _ _ h2]
/-- a method of Line and its promise -/
def CdM (P : Program) (w : World) (K : PySem.W.Frag) (mg : Str → Option Value) (base : Heap) (CX : CXT) (k : Nat) (m : Str) (sp : Sp) : Prop :=
  ∃ (C f : Addr) (fd : FuncData) (ps : List Str), mg "Line" = some (.ref C) ∧ Meth K C m f ∧ FnOk P w K mg base CX k f fd ps sp ∧ Binds K fd ps []
abbrev BindsQ (x qual : Str) (st : Stmt) (ps : List Str) : Prop := ∀ (kV doc pm : Value) (an : Option Addr) (cdv ct : Value) (us : List Value), us.length = ps.length → bindArgs (PySem.W.fnOf x qual (defArgs st) (defBody st) (defScope st) .none kV doc pm an cdv ct) ⟨us, []⟩ = pure (ps.zip us)
theorem cdm_of {P : Program} {w : World} {K : PySem.W.Frag} {mg : Str → Option Value} {base : Heap} {x qual : Str} {st : Stmt} {N ps : List Str} {k : Nat} {sp : Sp} (T : MAt K mg x qual st) (S : FnScope N ps (defScope st)) (hb : BindsQ x qual st ps) (len : ∀ vs H Q E, sp vs H Q E → vs.length = ps.length)
    (hbody : ∀ (f : Addr) (cdv : Value) (A : Around) (outer : List Env) (s : Shared) (H : Hp) (vs : List V) (Q : VK) (E : XK), Room k (A.deeper (envOfC qual (defScope st) s.heap.objs.size f cdv)) → sp vs H Q E →
      ∃ t, PSs (cxOf (L2.CX P w) P w K mg base N qual (defScope st) f cdv A outer s H E) (defBody st) t ∧ t { nx := fun _ H' => Q .non H', rt := Q } (start N vs) H) : CdM P w K mg base (L2.CX P w) (k + 1) x sp := by
  obtain ⟨C, f, fd, hm, M, F⟩ := T
  exact ⟨C, f, fd, ps, hm, M, F.okX S len (hbody f), F.binds hb⟩
def tMT (mg : Str → Option Value) (m : Str) (sp : Sp) (W : WX) (ta : TE) (t : TA) : TE := fun σ H Q => ta σ H fun x H1 => ∃ (C a dx : Addr) (fs : List (Str × V)), mg "Line" = some (.ref C) ∧ x = .ref a ∧ H1 a = some (.ins C dx fs) ∧ fs.lookup m = none ∧
  t σ H1 fun vs H2 => sp (x :: vs) H2 Q (WE W σ)
section
variable {X : Cx} {k j : Nat} {m : Str} {sp : Sp} {W : WX} {e o : Expr} {es : List Expr} {ta : TE} {t : TA} {apos pos : Pos}
theorem pe_mT {pl : Sem Bool} (c : CdM X.prog X.w X.K X.mg X.base (L2.CX X.prog X.w) k m sp) (L : LineC X.K X.mg) (hr : Room j X.A) (hk : k ≤ j) (tk : Takes X W) (he : PE X o ta) (ha : PA X (e :: es) t)
    (hst : starEach (e :: es) X.env = (false, eval e X.env) :: starEach es X.env := by rfl) (hpl : (backTo pos (starEach es X.env)).any (·.1) = false := by rfl)
    (ht : eval (.Call (.Attribute o m apos) (e :: es) [] pos) X.env = (do
      let ov ← eval o X.env
      standAt apos.atName
      let (f, first) ← holding [ov] (getMethod ov m pl)
      callWith pos f first (backTo pos (starEach (e :: es) X.env)) (backToKw pos (keywordEach [] X.env))) := by rfl) :
    PE X (.Call (.Attribute o m apos) (e :: es) [] pos) (tMT X.mg m sp W ta t) := by
  refine ⟨fun pins s σ H Q I h => ?_⟩
  obtain ⟨C, f, fd, ps, hm, M, F, hb⟩ := c
  obtain ⟨C', fI, fdI, hm', cl, _⟩ := L.ex
  rw [hm] at hm'
  cases hm'
  refine PySem.W.methodCall_KW (pl := pl) (thn (he.run pins s σ H _ I h) fun u s1 ⟨x, H1, I1, rx, C', a, dx, fs, hm2, ex, ea, l, q⟩ => ?_) ht
  rw [hm] at hm2
  cases hm2
  subst ex
  obtain rfl : u = Value.ref a := rx
  refine getmeth_ok I1 ea cl M l ?_
  refine PySem.W.callWith_K (first := [.ref a]) (h₀ := X.base) I.ok.mod.kin M.kp (thn (ha.run pos pins s1 σ H1 _ I1 q) fun us s2 ⟨vs, H2, I2, r, q2⟩ => ⟨I2.kIn, ?_⟩) hst hpl
  exact run_fnS (us := .ref a :: us) (vs := .ref a :: vs) (E := WE W) F (hr.mono hk) hb (passAt tk σ) I2 (.cons rfl r) q2
theorem pe_mT0 {pl : Sem Bool} (c : CdM X.prog X.w X.K X.mg X.base (L2.CX X.prog X.w) k m sp) (L : LineC X.K X.mg) (hr : Room j X.A) (hk : k ≤ j) (tk : Takes X W) (he : PE X o ta)
    (ht : eval (.Call (.Attribute o m apos) [] [] pos) X.env = (do
      let ov ← eval o X.env
      standAt apos.atName
      let (f, first) ← holding [ov] (getMethod ov m pl)
      callWith pos f first (backTo pos (starEach [] X.env)) (backToKw pos (keywordEach [] X.env))) := by rfl) :
    PE X (.Call (.Attribute o m apos) [] [] pos) (tMT X.mg m sp W ta tNil) := by
  refine ⟨fun pins s σ H Q I h => ?_⟩
  obtain ⟨C, f, fd, ps, hm, M, F, hb⟩ := c
  obtain ⟨C', fI, fdI, hm', cl, _⟩ := L.ex
  rw [hm] at hm'
  cases hm'
  refine PySem.W.methodCall_KW (pl := pl) (thn (he.run pins s σ H _ I h) fun u s1 ⟨x, H1, I1, rx, C', a, dx, fs, hm2, ex, ea, l, q⟩ => ?_) ht
  rw [hm] at hm2
  cases hm2
  subst ex
  obtain rfl : u = Value.ref a := rx
  refine getmeth_ok I1 ea cl M l ?_
  exact PySem.W.callWith_K0 (first := [.ref a]) I1.kIn M.kp (run_fnS (us := [.ref a]) (vs := [.ref a]) (E := WE W) F (hr.mono hk) hb (passAt tk σ) I1 (.cons rfl .nil) q)
end
theorem line_no {q : Addr} {p : Nat} {m : Str} (h : m ≠ "at" ∧ m ≠ "words" ∧ m ≠ "place") : (lineFs q p).lookup m = none := by
  unfold lineFs
  have h1 : (m == ("at" : Str)) = false := by simpa using h.1
  have h2 : (m == ("words" : Str)) = false := by simpa using h.2.1
  have h3 : (m == ("place" : Str)) = false := by simpa using h.2.2
  simp only [List.lookup, h1, h2, h3]
theorem put_place (q : Addr) (p : Nat) (v : V) : putF "place" v (lineFs q p) = ([("at", .int 0), ("words", .ref q), ("place", v)] : List (Str × V)) := by rfl
section
variable {K : PySem.W.Frag} {mg : Str → Option Value} {a q : Addr} {p p' : Nat} {ws : List (List Nat)} {H : Hp} {σ : L2.St} {ta te : TE} {t : TA} {W : WX} {m : Str} {f : Nat → List (List Nat) → List PyData → LnOut → Prop} {ds : List PyData} {r : PyData} {Q : VK} {i : Nat} {j : Int}
/-- the line itself -/
abbrev EvSelf (mg : Str → Option Value) (a q : Addr) (p : Nat) (ws : List (List Nat)) (te : TE) (σ : L2.St) (H : Hp) : Prop := ∀ H1, Wx (LW mg a q p ws) H H1 → ∀ Q : VK, (∀ H2, Wx (LW mg a q p ws) H1 H2 → Q (.ref a) H2) → te σ H1 Q
theorem ev_self (e : σ[i]? = some (some (.ref a))) : EvSelf mg a q p ws (tVar i) σ H := fun H1 x Q k => ⟨.ref a, e, k H1 (Wx.refl x.2.1)⟩
theorem ev_fat (Lc : LineC K mg) (hs : EvSelf mg a q p ws te σ H) : Ev (LW mg a q p ws) K (tFld K te "at") σ H (.int 0) := fun H1 x Q k => hs H1 x _ fun H2 x2 => by
  obtain ⟨C, dx, h0, h1, h2⟩ := x2.2.1
  obtain ⟨C', fI, fd, hm, cl, _, _, n1, n2, n3⟩ := Lc.ex
  rw [h0] at hm
  cases hm
  exact ⟨a, C, dx, _, .int 0, rfl, h1, cl, n1, by rfl, k _ H2 x2 (rp_int.mpr rfl)⟩
theorem ev_fplace (Lc : LineC K mg) (hs : EvSelf mg a q p ws te σ H) : Ev (LW mg a q p ws) K (tFld K te "place") σ H (.int (p : Nat)) := fun H1 x Q k => hs H1 x _ fun H2 x2 => by
  obtain ⟨C, dx, h0, h1, h2⟩ := x2.2.1
  obtain ⟨C', fI, fd, hm, cl, _, _, n1, n2, n3⟩ := Lc.ex
  rw [h0] at hm
  cases hm
  exact ⟨a, C, dx, _, .int (p : Nat), rfl, h1, cl, n3, by rfl, k _ H2 x2 (rp_int.mpr rfl)⟩
theorem rps_words (K : PySem.W.Frag) (H : Hp) (ws : List (List Nat)) : Rps K H (ws.map fun w => .str (S w)) (wordsV ws) := by
  have := Rps.strs (K := K) (H := H) (ws.map S)
  rw [List.map_map, List.map_map] at this
  exact this
theorem ev_lenWords (Lc : LineC K mg) (hs : EvSelf mg a q p ws te σ H) : Ev (LW mg a q p ws) K (tCB (fun xs H Q => ∃ x n, xs = [x] ∧ LenV K x H n ∧ Q (.int n) H) (tCons (tFld K te "words") tNil)) σ H (.int ws.length) := fun H1 x Q k => hs H1 x _ fun H2 x2 => by
  obtain ⟨C, dx, h0, h1, h2⟩ := x2.2.1
  obtain ⟨C', fI, fd, hm, cl, _, _, n1, n2, n3⟩ := Lc.ex
  rw [h0] at hm
  cases hm
  refine ⟨a, C, dx, _, .ref q, rfl, h1, cl, n2, by rfl, .ref q, ws.length, rfl, .inl ⟨_, SqL.of h2, ?_⟩, k _ H2 x2 (rp_int.mpr rfl)⟩
  unfold wordsV
  rw [List.length_map]
theorem ev_wordAt (Lc : LineC K mg) (hs : EvSelf mg a q p ws te σ H) {i : Nat} {w : List Nat} (hi : Ev (LW mg a q p ws) K ta σ H (.int (i : Nat))) (hw : ws[i]? = some w) : Ev (LW mg a q p ws) K (tOp (rIx K) (tFld K te "words") ta) σ H (.str (S w)) := fun H1 x Q k => hs H1 x _ fun H2 x2 => by
  obtain ⟨C, dx, h0, h1, h2⟩ := x2.2.1
  obtain ⟨C', fI, fd, hm, cl, _, _, n1, n2, n3⟩ := Lc.ex
  rw [h0] at hm
  cases hm
  refine ⟨a, C, dx, _, .ref q, rfl, h1, cl, n2, by rfl, hi H2 (x.trans x2) _ fun v H3 x3 hv => .inl ⟨q, wordsV ws, (i : Nat), .str (S w), rfl, rp_int.mp hv, ?_, ?_, k _ H3 (x2.trans x3) (rp_str.mpr rfl)⟩⟩
  · obtain ⟨C, dx, h0, h1, h2⟩ := x3.2.1
    exact SqL.of h2
  · unfold atI wordsV
    obtain ⟨hl, _⟩ := List.getElem?_eq_some_iff.mp hw
    rw [List.length_map, ixN_nat hl]
    show (ws.map fun w => V.str (S w))[i]? = _
    rw [List.getElem?_map, hw]
    rfl
/-- a method that goes well -/
theorem ln_ok (hs : EvSelf mg a q p ws ta σ H) (L : LineAt mg H a q p ws) (hm : m ≠ "at" ∧ m ≠ "words" ∧ m ≠ "place") (ht : EvA (LW mg a q p ws) K t σ H ds) (hf : f p ws ds (.ok r p')) (k : ∀ v H', Others a H H' → LineAt mg H' a q p' ws → Rp K H' r v → Q v H') :
    tMT mg m (SpLn K mg f) W ta t σ H Q := hs H (Wx.refl (W := LW mg a q p ws) L) _ fun H2 x2 => by
  obtain ⟨C, dx, h0, h1, h2⟩ := x2.2.1
  exact ⟨C, a, dx, _, h0, rfl, h1, line_no hm, ht H2 x2 _ fun us H3 x3 h3 => ⟨a, q, p, ws, ds, us, _, rfl, x3.2.1, h3, hf, fun r' p2 e v H' o L' hr => by
    cases e
    exact k v H' ((lw_others (x2.trans x3)).trans o) L' hr, fun j e => by cases e⟩⟩
theorem ln_bad (hs : EvSelf mg a q p ws ta σ H) (L : LineAt mg H a q p ws) (hm : m ≠ "at" ∧ m ≠ "words" ∧ m ≠ "place") (ht : EvA (LW mg a q p ws) K t σ H ds) (hf : f p ws ds (.bad j)) (kE : OutX K mg (Others a H) "WrongLine" (wl 0 j) (fun c d H' => W c d σ H')) :
    tMT mg m (SpLn K mg f) W ta t σ H Q := hs H (Wx.refl (W := LW mg a q p ws) L) _ fun H2 x2 => by
  obtain ⟨C, dx, h0, h1, h2⟩ := x2.2.1
  exact ⟨C, a, dx, _, h0, rfl, h1, line_no hm, ht H2 x2 _ fun us H3 x3 h3 => ⟨a, q, p, ws, ds, us, _, rfl, x3.2.1, h3, hf, fun r' p2 e => (by cases e), fun j' e => by
    cases e
    exact kE.imp fun H' o => (lw_others (x2.trans x3)).trans o⟩⟩
/-- a method that leaves the line where it stands -/
theorem ev_ln (hs : EvSelf mg a q p ws ta σ H) (hm : m ≠ "at" ∧ m ≠ "words" ∧ m ≠ "place") (ht : EvA (LW mg a q p ws) K t σ H ds) (hf : f p ws ds (.ok r p)) : Ev (LW mg a q p ws) K (tMT mg m (SpLn K mg f) W ta t) σ H r := fun H1 x Q k =>
  ln_ok (fun H2 y => hs H2 (x.trans y)) x.2.1 hm (fun H2 y => ht H2 (x.trans y)) hf fun v H' o L hr => k v H' (lw_of x.2.1 o L) hr
end
end Fd
-- D7
namespace Fd
open PySem PySem.Spec PyProof.Rows L2
section
variable {K : PySem.W.Frag} {mg : Str → Option Value} {a q : Addr} {p p' : Nat} {ws : List (List Nat)} {H0 H : Hp} {σ : L2.St} {ta te : TE} {D : Ends} {Q : VK} {E : XK} {d : PyData} {o : LnOut} {u : TS}
/-- just this value -/
@[reducible] def VP.is {W : Wd} {K : PySem.W.Frag} (v : V) (d : PyData) : VP W := ⟨fun H x => x = v ∧ Rp K H d x, fun x h => ⟨h.1, x.rp h.2⟩⟩
/-- a method of Line hands back and leaves the line where it stands -/
theorem retLn (k1 : ∀ r p', o = .ok r p' → ∀ v H', Others a H0 H' → LineAt mg H' a q p' ws → Rp K H' r v → Q v H') (x0 : Others a H0 H) (L : LineAt mg H a q p ws) (h : Ev (LW mg a q p ws) K te σ H d) (e : o = .ok d p) (hD : D.rt = Q := by rfl) : tRet te D σ H :=
  h.run (W := LW mg a q p ws) L fun v H' x hv => by
    rw [hD]
    exact k1 d p e v H' (x0.trans (lw_others x)) x.2.1 hv
theorem endLn (k1 : ∀ r p', o = .ok r p' → ∀ v H', Others a H0 H' → LineAt mg H' a q p' ws → Rp K H' r v → Q v H') (x0 : Others a H0 H) (L : LineAt mg H a q p ws) (e : o = .ok .none p) (hD : D.nx = fun _ H' => Q .non H' := by rfl) : D.nx σ H := by
  rw [hD]
  exact k1 _ p e .non H x0 L (rp_non.mpr rfl)
/-- fail(.., ..) in a method of Line -/
theorem out_fail {f : List PyData → PyData ⊕ (Str × PyData) → Prop} {t : TA} {j : Int} (k2 : ∀ j, o = .bad j → OutX K mg (Others a H0) "WrongLine" (wl 0 j) E) (x0 : Others a H0 H) (h : EvA (LW mg a q p ws) K t σ H [.int 0, .int j]) (hf : f [.int 0, .int j] (.inr ("WrongLine", wl 0 j))) (e : o = .bad j) :
    EvOut (LW mg a q p ws) (tCallS (SpR K mg f) (WE (fun cls d _ H => E cls d H)) t) σ H := out_callR h hf ((k2 j e).imp fun H' y => x0.trans (lw_others y))
/-- line.place = .. -/
theorem st_place (Lc : LineC K mg) (L : LineAt mg H a q p ws) (hs : ∀ H1, LineAt mg H1 a q p ws → EvSelf mg a q p ws ta σ H1) (h : Ev (LW mg a q p ws) K te σ H (.int (p' : Nat))) (k : ∀ H', Others a H H' → LineAt mg H' a q p' ws → u D σ H') : tSeq (sFld K ta te "place") u D σ H :=
  h.run (W := LW mg a q p ws) L fun v H1 x1 hv => hs H1 x1.2.1 H1 (Wx.refl (W := LW mg a q p ws) x1.2.1) _ fun H2 x2 => by
    have hqa := x2.2.1.ne
    obtain ⟨C, dx, h0, h1, h2⟩ := x2.2.1
    obtain ⟨C', fI, fd, hm, cl, _, _, n1, n2, n3⟩ := Lc.ex
    rw [h0] at hm
    cases hm
    refine ⟨a, C, dx, _, rfl, h1, cl, n3, (show 3 < 1000 by decide), ?_⟩
    rw [put_place, rp_int.mp hv]
    refine k _ (fun b o n e => ?_) ⟨C, dx, h0, upd_same, ?_⟩
    · rw [upd_ne n]
      exact lw_others (x1.trans x2) b o n e
    · rw [upd_ne hqa]
      exact h2
end
def fTake : Nat → List (List Nat) → List PyData → LnOut → Prop := fun p ws ds o => ds = [] ∧ o = (match ws[p]? with | some w => .ok (.str (S w)) (p + 1) | none => .bad (p : Int)) ∧ p ≤ ws.length
def fWant : Nat → List (List Nat) → List PyData → LnOut → Prop := fun p ws ds o => ∃ b : Bool, ds = [.bool b] ∧ o = (if b = true then .ok .none p else .bad ((p : Int) - 1))
section
variable {K : PySem.W.Frag} {mg : Str → Option Value} {a q : Addr} {p : Nat} {ws : List (List Nat)} {H : Hp} {σ : L2.St} {ta : TE} {t : TA} {W : WX} {D : Ends} {u : TS}
/-- line.want(b) -/
theorem want_then {b : Bool} (hs : EvSelf mg a q (p + 1) ws ta σ H) (L : LineAt mg H a q (p + 1) ws) (ht : EvA (LW mg a q (p + 1) ws) K t σ H [.bool b]) (k : b = true → ∀ H', Others a H H' → LineAt mg H' a q (p + 1) ws → u D σ H')
    (kE : b = false → OutX K mg (Others a H) "WrongLine" (wl 0 (p : Nat)) (fun c d H' => W c d σ H')) : tSeq (tDrop (tMT mg "want" (SpLn K mg fWant) W ta t)) u D σ H := by
  cases b with
  | true => exact drop_then (W := LW mg a q (p + 1) ws) L (ev_ln hs (by decide) ht ⟨_, rfl, (if_pos rfl).symm⟩) fun v4 H2 x2 _ => k rfl H2 (lw_others x2) x2.2.1
  | false =>
    exact ln_bad hs L (by decide) ht ⟨_, rfl, (if_neg (by decide)).symm⟩ (by
      have e1 : (((p + 1 : Nat) : Int) - 1) = (p : Int) := by omega
      rw [e1]
      exact kE rfl)
theorem want_last {b : Bool} (hs : EvSelf mg a q (p + 1) ws ta σ H) (L : LineAt mg H a q (p + 1) ws) (ht : EvA (LW mg a q (p + 1) ws) K t σ H [.bool b]) (k : b = true → ∀ H', Others a H H' → LineAt mg H' a q (p + 1) ws → D.nx σ H')
    (kE : b = false → OutX K mg (Others a H) "WrongLine" (wl 0 (p : Nat)) (fun c d H' => W c d σ H')) : tDrop (tMT mg "want" (SpLn K mg fWant) W ta t) D σ H :=
  want_then (D := D) (u := fun D σ H => D.nx σ H) hs L ht k kE
end
section
variable {K : PySem.W.Frag} {mg : Str → Option Value} {a q : Addr} {p : Nat} {ws : List (List Nat)} {H : Hp} {σ : L2.St} {ta : TE} {tr : TA} {Q : VK} {E : XK} {d : PyData} {W : WX} {wd : List Nat} {ds : List PyData} {f : List PyData → PyData → Prop}
/-- a pure def of the word that is taken (and of more) -/
theorem take_call (hs : EvSelf mg a q p ws ta σ H) (L : LineAt mg H a q p ws) (hw : ws[p]? = some wd) (hr : ∀ H1, Others a H H1 → LineAt mg H1 a q (p + 1) ws → EvA (LW mg a q (p + 1) ws) K tr σ H1 ds) (hf : f (.str (S wd) :: ds) d) (k : ∀ v H', Others a H H' → LineAt mg H' a q (p + 1) ws → Rp K H' d v → Q v H') :
    tCall (SpD K f) [] E (tCons (tMT mg "take" (SpLn K mg fTake) W ta tNil) tr) σ H Q :=
  ln_ok hs L (by decide) ea_nil ⟨rfl, by rw [hw], Nat.le_of_lt (List.getElem?_eq_some_iff.mp hw).1⟩ fun v H1 o1 L1 r1 => hr H1 o1 L1 H1 (Wx.refl (W := LW mg a q (p + 1) ws) L1) _ fun vs H2 x2 h2 => ⟨.str (S wd) :: ds, d, by rw [List.append_nil]; exact rps_cons.mpr ⟨v, vs, rfl, x2.rp r1, h2⟩, hf, fun v3 H3 s r3 => k v3 H3 ((o1.trans (lw_others x2)).trans (Others.same s)) (x2.2.1.same s) r3⟩
theorem take_bad (hs : EvSelf mg a q p ws ta σ H) (L : LineAt mg H a q p ws) (hp : p ≤ ws.length) (hw : ws[p]? = none) (kE : OutX K mg (Others a H) "WrongLine" (wl 0 (p : Nat)) (fun c d H' => W c d σ H')) : tMT mg "take" (SpLn K mg fTake) W ta tNil σ H Q :=
  ln_bad hs L (by decide) ea_nil ⟨rfl, by rw [hw], hp⟩ kE
end
section
variable {P : Program} {w : World} {K : PySem.W.Frag} {mg : Str → Option Value} {base : Heap}
theorem ln_want (Z : Tz K mg) : CdM P w K mg base (L2.CX P w) 5 "want" (SpLn K mg (fWant)) := by
  have T : Tx K mg := Z.toTx
  refine cdm_of (k := 4) Z.m_want sc_Line_want (fun _ _ _ _ _ _ us hl => match us, hl with | [_, _], _ => rfl) (SpLn.len fun p ws ds r h => by obtain ⟨_, e, _⟩ := h; rw [e]; rfl) ?_
  intro fa cdv A outer s H vs Q E hr ⟨a, q, p, ws, ds, us, o, e0, L, hds, hf, k1, k2⟩
  subst e0
  obtain ⟨b, e1, e2⟩ := hf
  subst e1 e2
  obtain ⟨v1, e, r1⟩ := rps1 hds
  subst e
  refine ⟨_, (pss_one (ps_if (pt_not (pt_val (pv 1)))
      (pss_one (ps_expr (pe_dX (cd_fail Z) hr (by decide) (takes_of rfl rfl rfl rfl) (pa_cons (pe_fld (pv 0) rfl) (pa_cons (pe_op op_sub (pe_fld (pv 0) rfl) pe_int) pa_nil))))) pss_nil)), ?_⟩
  refine st_if (W := LW mg a q p ws) L (et_not (et_B (ev_var rfl r1))) (fun hb H1 x1 => ?_) fun hb H1 x1 => ?_
  · rw [Bool.not_eq_true'] at hb
    exact out_drop (W := LW mg a q p ws) x1.2.1 (out_fail k2 (lw_others x1) (ea_cons (ev_fat Z.line (ev_self rfl)) (ea_cons (ev_opI0 (ev_fplace Z.line (ev_self rfl)) ev_int) ea_nil)) ⟨_, _, rfl, rfl⟩ (if_neg (fun z => Bool.false_ne_true (hb.symm.trans z))))
  · rw [Bool.not_eq_false'] at hb
    exact endLn k1 (lw_others x1) x1.2.1 (if_pos hb)
theorem ln_is_over (Z : Tz K mg) : CdM P w K mg base (L2.CX P w) 1 "is_over" (SpLn K mg (fun p ws ds o => ds = [] ∧ o = .ok (.bool (decide (p = ws.length))) p)) := by
  have T : Tx K mg := Z.toTx
  refine cdm_of (k := 0) Z.m_is_over sc_Line_is_over (fun _ _ _ _ _ _ us hl => match us, hl with | [_], _ => rfl) (SpLn.len fun p ws ds r h => by obtain ⟨e, _⟩ := h; rw [e]; rfl) ?_
  intro fa cdv A outer s H vs Q E hr ⟨a, q, p, ws, ds, us, o, e0, L, hds, hf, k1, k2⟩
  subst e0
  obtain ⟨e1, e2⟩ := hf
  subst e1 e2
  have e := rps_nil.mp hds
  subst e
  refine ⟨_, (pss_one (ps_ret (pe_cmpR op_eq (pe_fld (pv 0) rfl) (pe_callB (kLen K) (by rfl) T.n_len PySem.boot_len (pa_cons (pe_fld (pv 0) rfl) pa_nil)) (nomark _)))), ?_⟩
  refine retLn k1 Others.refl L (ev_eqI (ev_fplace Z.line (ev_self rfl)) (ev_lenWords Z.line (ev_self rfl))) ?_
  congr 2
  exact decide_eq_decide.mpr Int.ofNat_inj.symm
theorem ln_want_over (Z : Tz K mg) : CdM P w K mg base (L2.CX P w) 5 "want_over" (SpLn K mg (fun p ws ds o => ds = [] ∧ o = (if p = ws.length then .ok .none p else .bad (p : Int)))) := by
  have T : Tx K mg := Z.toTx
  refine cdm_of (k := 4) Z.m_want_over sc_Line_want_over (fun _ _ _ _ _ _ us hl => match us, hl with | [_], _ => rfl) (SpLn.len fun p ws ds r h => by obtain ⟨e, _⟩ := h; rw [e]; rfl) ?_
  intro fa cdv A outer s H vs Q E hr ⟨a, q, p, ws, ds, us, o, e0, L, hds, hf, k1, k2⟩
  subst e0
  obtain ⟨e1, e2⟩ := hf
  subst e1 e2
  have e := rps_nil.mp hds
  subst e
  refine ⟨_, (pss_one (ps_if (pt_not (pt_val (pe_mT0 (ln_is_over Z) Z.line hr (by decide) (takes_of rfl rfl rfl rfl) (pv 0))))
      (pss_one (ps_expr (pe_dX (cd_fail Z) hr (by decide) (takes_of rfl rfl rfl rfl) (pa_cons (pe_fld (pv 0) rfl) (pa_cons (pe_fld (pv 0) rfl) pa_nil))))) pss_nil)), ?_⟩
  refine st_if (W := LW mg a q p ws) L (et_not (et_B (ev_ln (ev_self rfl) (by decide) ea_nil ⟨rfl, rfl⟩))) (fun hb H1 x1 => ?_) fun hb H1 x1 => ?_
  · rw [Bool.not_eq_true', decide_eq_false_iff_not] at hb
    exact out_drop (W := LW mg a q p ws) x1.2.1 (out_fail k2 (lw_others x1) (ea_cons (ev_fat Z.line (ev_self rfl)) (ea_cons (ev_fplace Z.line (ev_self rfl)) ea_nil)) ⟨_, _, rfl, rfl⟩ (if_neg hb))
  · rw [Bool.not_eq_false', decide_eq_true_eq] at hb
    exact endLn k1 (lw_others x1) x1.2.1 (if_pos hb)
theorem ln_take (Z : Tz K mg) : CdM P w K mg base (L2.CX P w) 5 "take" (SpLn K mg (fTake)) := by
  have T : Tx K mg := Z.toTx
  refine cdm_of (k := 4) Z.m_take sc_Line_take (fun _ _ _ _ _ _ us hl => match us, hl with | [_], _ => rfl) (SpLn.len fun p ws ds r h => by obtain ⟨e, _⟩ := h; rw [e]; rfl) ?_
  intro fa cdv A outer s H vs Q E hr ⟨a, q, p, ws, ds, us, o, e0, L, hds, hf, k1, k2⟩
  subst e0
  obtain ⟨e1, e2, hp⟩ := hf
  subst e1 e2
  have e := rps_nil.mp hds
  subst e
  refine ⟨_, (pss_cons (ps_if (pt_val (pe_mT0 (ln_is_over Z) Z.line hr (by decide) (takes_of rfl rfl rfl rfl) (pv 0)))
      (pss_one (ps_expr (pe_dX (cd_fail Z) hr (by decide) (takes_of rfl rfl rfl rfl) (pa_cons (pe_fld (pv 0) rfl) (pa_cons (pe_fld (pv 0) rfl) pa_nil))))) pss_nil)
    (pss_cons (ps_fld (pv 0) (pe_op op_add (pe_fld (pv 0) rfl) pe_int) rfl)
    (pss_one (ps_ret (pe_ix (ixL K) (pe_fld (pv 0) rfl) (pe_op op_sub (pe_fld (pv 0) rfl) pe_int) (fun _ _ => rfl)))))), ?_⟩
  refine if_then (W := LW mg a q p ws) L (et_B (ev_ln (ev_self rfl) (by decide) ea_nil ⟨rfl, rfl⟩)) (fun hb H1 x1 => ?_) fun hb H1 x1 => ?_
  · rw [decide_eq_true_eq] at hb
    have e : ws[p]? = none := List.getElem?_eq_none (by omega)
    rw [e] at k1 k2
    exact out_drop (W := LW mg a q p ws) x1.2.1 (out_fail k2 (lw_others x1) (ea_cons (ev_fat Z.line (ev_self rfl)) (ea_cons (ev_fplace Z.line (ev_self rfl)) ea_nil)) ⟨_, _, rfl, rfl⟩ rfl)
  · rw [decide_eq_false_iff_not] at hb
    have hl : p < ws.length := by omega
    have e : ws[p]? = some ws[p] := List.getElem?_eq_getElem hl
    rw [e] at k1 k2
    refine st_place (p' := p + 1) Z.line x1.2.1 (fun H2 L2 => ev_self rfl) (ev_is (ev_opI0 (ev_fplace Z.line (ev_self rfl)) ev_int) rfl) fun H2 o2 L2 => ?_
    exact retLn k1 ((lw_others x1).trans o2) L2 (ev_wordAt Z.line (ev_self rfl) (ev_is (ev_opI0 (ev_fplace Z.line (ev_self rfl)) ev_int) (congrArg PyData.int (by omega))) e) rfl
/-- take_one(some): some a list of words -/
def spOne (K : PySem.W.Frag) (mg : Str → Option Value) : Sp := fun vs H Q E => ∃ (a q : Addr) (p : Nat) (ws : List (List Nat)) (b : Addr) (ls w : _) , vs = [.ref a, .ref b] ∧ LineAt mg H a q p ws ∧ H b = some (.lst (wordsV ls)) ∧ b ≠ a ∧ b ≠ q ∧ ws[p]? = some w ∧
  (w ∈ ls → ∀ v H', Others a H H' → LineAt mg H' a q (p + 1) ws → Rp K H' (.str (S w)) v → Q v H') ∧ (w ∉ ls → OutX K mg (Others a H) "WrongLine" (wl 0 (p : Nat)) E)
theorem inWords (w : List Nat) : ∀ ls : List (List Nat), inV (sc (.str (S w))) ((ls.map fun l => PyData.str (S l)).map sc) = decide (w ∈ ls)
  | [] => rfl
  | l :: ls => by
    have ih := inWords w ls
    unfold inV at ih ⊢
    rw [List.map_cons, List.map_cons, List.any_cons, ih]
    show ((S l == S w) || _) = _
    rw [SX.S_beq_eq, ← Bool.decide_or]
    exact decide_eq_decide.mpr ⟨fun h => by
      rcases h with h | h
      · rw [h]; exact List.mem_cons_self ..
      · exact List.mem_cons_of_mem _ h, fun h => by
      rcases List.mem_cons.mp h with h | h
      · exact .inl h.symm
      · exact .inr h⟩
theorem ln_take_one (Z : Tz K mg) : CdM P w K mg base (L2.CX P w) 6 "take_one" (spOne K mg) := by
  have T : Tx K mg := Z.toTx
  refine cdm_of (k := 5) Z.m_take_one sc_Line_take_one (fun _ _ _ _ _ _ us hl => match us, hl with | [_, _], _ => rfl) (fun vs H Q E h => by obtain ⟨a, q, p, ws, b, ls, w, e, _⟩ := h; rw [e]; rfl) ?_
  intro fa cdv A outer s H vs Q E hr ⟨a, q, p, ws, b, ls, wd, e, L, hb, hne, hnq, hw, k1, k2⟩
  subst e
  refine ⟨_, (pss_cons (ps_set (i := 2) sc_Line_take_one.nd rfl (Or.inl rfl) (pe_mT0 (ln_take Z) Z.line hr (by decide) (takes_of rfl rfl rfl rfl) (pv 0)))
    (pss_cons (ps_expr (pe_mT (ln_want Z) Z.line hr (by decide) (takes_of rfl rfl rfl rfl) (pv 0) (pa_cons (pe_cmpR (kIn K) (pv 2) (pv 1) (by first | exact nomark _ | rfl)) pa_nil)))
    (pss_one (ps_ret (pv 2))))), ?_⟩
  have hp : p < ws.length := (List.getElem?_eq_some_iff.mp hw).1
  refine ln_ok (ev_self rfl) L (by decide) ea_nil ⟨rfl, by rw [hw], by omega⟩ fun v H1 o1 L1 r1 => ?_
  have hb1 := o1 b _ hne hb
  have hsc : ∀ e ∈ ls.map (fun l => PyData.str (S l)), isSc e = true := fun e he => by
    obtain ⟨l, _, z⟩ := List.mem_map.mp he
    subst z
    rfl
  have hin : Ev (LW mg a q (p + 1) ws) K (tOp (rIn K false) (tVar 2) (tVar 1)) [some (.ref a), some (.ref b), some v] H1 (.bool (decide (wd ∈ ls))) := by
    refine ev_is (ev_in (neg := false) (ev_var rfl r1) (evp_var (p := VP.s (LW mg a q (p + 1) ws) K (ls.map fun l => PyData.str (S l))) rfl ⟨b, _, rfl, .inl ⟨SqL.of hb1, fun m => m.elim hne hnq⟩, rps_words K _ ls⟩) rfl hsc) ?_
    rw [if_neg (by decide), inWords]
  refine want_then (ev_self rfl) L1 (ea_cons hin ea_nil) (fun hm H2 o2 L2 => ?_) fun hm => (k2 (of_decide_eq_false hm)).imp fun H' o => o1.trans o
  exact st_ret (W := LW mg a q (p + 1) ws) L2 (ev_var rfl (Rp.mono (L1.keepT o2) _ _ r1)) fun v3 H3 x3 r3 => k1 (of_decide_eq_true hm) v3 H3 ((o1.trans o2).trans (lw_others x3)) x3.2.1 r3
theorem ln_take_number (Z : Tz K mg) : CdM P w K mg base (L2.CX P w) 6 "take_number" (SpLn K mg (fun p ws ds o => ∃ lo hi : Int, ds = [.int lo, .int hi] ∧ o = (match ws[p]? with | none => .bad (p : Int) | some w => (match numOf w with | some n => if (decide (lo ≤ n) && decide (n ≤ hi)) = true then .ok (.int n) (p + 1) else .bad (p : Int) | none => .bad (p : Int))) ∧ p ≤ ws.length ∧ ∀ w ∈ ws, w.length ≤ 1000000)) := by
  have T : Tx K mg := Z.toTx
  refine cdm_of (k := 5) Z.m_take_number sc_Line_take_number (fun _ _ _ _ _ _ us hl => match us, hl with | [_, _, _], _ => rfl) (SpLn.len fun p ws ds r h => by obtain ⟨_, _, e, _⟩ := h; rw [e]; rfl) ?_
  intro fa cdv A outer s H vs Q E hr ⟨a, q, p, ws, ds, us, o, e0, L, hds, hf, k1, k2⟩
  subst e0
  obtain ⟨lo, hi, e1, e2, hp, hw⟩ := hf
  subst e1 e2
  obtain ⟨v1, v2, e, r1, r2⟩ := rps2 hds
  subst e
  refine ⟨_, (pss_cons (ps_set (i := 3) sc_Line_take_number.nd rfl (Or.inl rfl) (pe_d (cd_number_of T) hr (by decide) (pa_cons (pe_mT0 (ln_take Z) Z.line hr (by decide) (takes_of rfl rfl rfl rfl) (pv 0)) pa_nil)))
    (pss_cons (ps_expr (pe_mT (ln_want Z) Z.line hr (by decide) (takes_of rfl rfl rfl rfl) (pv 0) (pa_cons (pe_and (pe_cmpR op_notN (pv 3) pe_non (nomark _)) (pe_one (pe_chain op_le op_le (pv 1) (pv 3) (pv 2)))) pa_nil)))
    (pss_one (ps_ret (pv 3))))), ?_⟩
  cases e : ws[p]? with
  | none =>
    rw [e] at k1 k2
    refine ln_bad (ev_self rfl) L (by decide) ea_nil ⟨rfl, by rw [e], hp⟩ (k2 _ rfl)
  | some wd =>
    rw [e] at k1 k2
    dsimp only at k1 k2
    have hwl := hw wd (List.mem_of_getElem? e)
    refine take_call (ev_self rfl) L e (fun H1 _ _ => ea_nil) ⟨_, rfl, rfl, hwl⟩ fun v3 H1 o1 L1 r3 => ?_
    have kT := L.keepT o1
    replace r1 := Rp.mono kT _ _ r1
    replace r2 := Rp.mono kT _ _ r2
    cases en : numOf wd with
    | none =>
      rw [en] at k1 k2 r3
      exact want_then (b := false) (ev_self rfl) L1 (ea_cons (ev_and (b := false) (ev_notN (ev_var rfl r3) ev_non) fun h => by cases h) ea_nil) (fun h => by cases h) fun _ => (k2 _ rfl).imp fun H' o => o1.trans o
    | some n =>
      rw [en] at k1 k2 r3
      refine want_then (ev_self rfl) L1 (ea_cons (ev_and (ev_notN (ev_var rfl r3) ev_non) fun _ => ev_chain (ev_var rfl r1) (ev_var rfl r3) rv_B0 (fun _ => ev_var rfl r2) rv_B0) ea_nil) (fun hb H2 o2 L2 => ?_) fun hb => ?_
      · have hb' : (decide (lo ≤ n) && decide (n ≤ hi)) = true := hb
        exact st_ret (W := LW mg a q (p + 1) ws) L2 (ev_var rfl (Rp.mono (L1.keepT o2) _ _ r3)) fun v5 H3 x3 r5 => k1 (.int n) _ (if_pos hb') v5 H3 ((o1.trans o2).trans (lw_others x3)) x3.2.1 r5
      · have hb' : (decide (lo ≤ n) && decide (n ≤ hi)) = false := hb
        exact (k2 _ (if_neg (fun z => Bool.false_ne_true (hb'.symm.trans z)))).imp fun H' o => o1.trans o
end
end Fd
-- M5
/-! Reading a line's parts, in plain Lean. -/
namespace Fd
open PySem PySem.Spec PyProof.Rows L2
def fits (adj : PyData → PyData → Bool) (found : List PyData) (d : PyData) : Bool :=
  match found.getLast? with
  | none => true
  | some l => adj l d
/-- the parts from place at on: all, or the place of the first wrong one -/
def partsGo (f : List Nat → PyData) (most : Nat) (adj : PyData → PyData → Bool) : List PyData → Nat → List (List Nat) → List PyData ⊕ Nat
  | found, _, [] => .inl found
  | found, i, w :: ws => if (!isNone (f w) && decide (found.length < most) && fits adj found (f w)) = true then partsGo f most adj (found ++ [f w]) (i + 1) ws else .inr i
def outP : List PyData ⊕ Nat → Nat → LnOut
  | .inl l, n => .ok (.tuple l) n
  | .inr j, _ => .bad (j : Nat)
def fstD : PyData → PyData
  | .tuple (d :: _) => d
  | _ => .none
def lenD : PyData → Nat
  | .tuple ds => ds.length
  | _ => 0
/-- rows of one width, rising -/
def rowAdj (l d : PyData) : Bool := decide (lenD (fstD d) = lenD (fstD l)) && HT.lexLt (keyOf l) (keyOf d)
def tieAdj (l d : PyData) : Bool := decide (fstI l < fstI d)
def noAdj (_ _ : PyData) : Bool := true
def setOf (l : List Nat) : PyData :=
  match listOf l with
  | some ns => if lotI ns 7 1 19 = true then .tuple (ns.map .int) else .none
  | none => .none
def idxOf (l : List Nat) : PyData := optI (numOf l)
theorem rowOf_some {p : Int} {l : List Nat} (h : isNone (rowOf p l) = false) : ∃ (ns : List Int) (n : Int), rowOf p l = .tuple [.tuple (ns.map .int), .int n] ∧ lotI ns 7 0 19 = true ∧ 1 ≤ n ∧ n < p := by
  unfold rowOf at h ⊢
  cases e : TL.par [42] [] l with
  | none => rw [e] at h; cases h
  | some ab =>
    rw [e] at h
    obtain ⟨a, b⟩ := ab
    dsimp only at h ⊢
    cases e1 : numOf a with
    | none => rw [e1] at h; cases h
    | some n =>
      rw [e1] at h
      unfold pieceOf at h ⊢
      cases e2 : listOf b with
      | none => rw [e2] at h; cases h
      | some ns =>
        rw [e2] at h
        dsimp only at h ⊢
        by_cases e3 : lotI ns 7 0 19 = true
        · rw [if_pos e3] at h ⊢
          dsimp only at h ⊢
          by_cases e4 : (decide (1 ≤ n) && decide (n < p)) = true
          · rw [if_pos e4]
            rw [Bool.and_eq_true, decide_eq_true_eq, decide_eq_true_eq] at e4
            exact ⟨ns, n, rfl, e3, e4⟩
          · rw [if_neg e4] at h
            cases h
        · rw [if_neg e3] at h
          cases h
theorem tieOf_some {l : List Nat} (h : isNone (tieOf l) = false) : ∃ a b : Int, tieOf l = .tuple [.int a, .int b] := by
  unfold tieOf at h ⊢
  cases e : TL.par [45] [] l with
  | none => rw [e] at h; cases h
  | some ab =>
    rw [e] at h
    obtain ⟨a, b⟩ := ab
    dsimp only at h ⊢
    cases e1 : numOf a with
    | none => rw [e1] at h; cases h
    | some n =>
      rw [e1] at h
      cases e2 : numOf b with
      | none => rw [e2] at h; cases h
      | some m => exact ⟨n, m, rfl⟩
/-- what is found holds of each part -/
theorem partsGo_all {f : List Nat → PyData} {most : Nat} {adj : PyData → PyData → Bool} {Pd : PyData → Prop} (hf : ∀ w, isNone (f w) = false → Pd (f w)) : ∀ (ws : List (List Nat)) (found : List PyData) (i : Nat) (l : List PyData), (∀ d ∈ found, Pd d) → partsGo f most adj found i ws = .inl l → ∀ d ∈ l, Pd d
  | [], found, i, l, h, e => by
    injection e with e
    rw [← e]
    exact h
  | w :: ws, found, i, l, h, e => by
    unfold partsGo at e
    split at e
    · rename_i c
      rw [Bool.and_eq_true, Bool.and_eq_true, Bool.not_eq_true'] at c
      refine partsGo_all hf ws _ _ l (fun d hd => ?_) e
      rcases List.mem_append.mp hd with z | z
      · exact h d z
      · rw [List.mem_singleton.mp z]
        exact hf w c.1.1
    · cases e
end Fd
-- Lp
namespace Fd
open PySem PySem.Spec PyProof.Rows L2
theorem fold_lt : ∀ (l : List Nat) (a : Nat), (∀ c ∈ l, c ≤ 57) → l.foldl (fun acc c => acc * 10 + (c - 48)) a < (a + 1) * 10 ^ l.length
  | [], a, _ => by simp
  | c :: l, a, h => by
    have h1 := h c (List.mem_cons_self ..)
    have ih := fold_lt l (a * 10 + (c - 48)) fun d hd => h d (List.mem_cons_of_mem _ hd)
    rw [List.foldl_cons, List.length_cons, Nat.pow_succ]
    refine Nat.lt_of_lt_of_le ih ?_
    have : (a * 10 + (c - 48) + 1) * 10 ^ l.length ≤ ((a + 1) * 10) * 10 ^ l.length := Nat.mul_le_mul_right _ (by omega)
    rw [Nat.mul_comm (10 ^ l.length) 10, ← Nat.mul_assoc]
    exact this
theorem numOf_gr {l : List Nat} {n : Int} (h : numOf l = some n) : gr n := by
  unfold numOf at h
  by_cases hb : numB l = true
  · rw [if_pos hb] at h
    injection h with h
    unfold numB at hb
    simp only [Bool.and_eq_true, decide_eq_true_eq, List.all_eq_true] at hb
    have h1 := fold_lt l 0 fun c hc => by
      have := hb.2.1 c hc
      unfold isF at this
      rw [Bool.and_eq_true, decide_eq_true_eq, decide_eq_true_eq] at this
      exact this.2
    have h2 : 10 ^ l.length ≤ 10 ^ 20 := Nat.pow_le_pow_right (by decide) hb.1.2
    have h3 : NumText.digitsVal l < 10 ^ 20 := by
      unfold NumText.digitsVal
      omega
    unfold gr HI
    omega
  · rw [if_neg hb] at h
    cases h
/-- a list of one's own beside a line -/
structure FoundAt (K : PySem.W.Frag) (mg : Str → Option Value) (H0 H : Hp) (a q : Addr) (p : Nat) (ws : List (List Nat)) (pf : Addr) (ds : List PyData) : Prop where
  L : LineAt mg H a q p ws
  hp : p ≤ ws.length
  o : Others a H0 H
  hn : H0 pf = none
  na : pf ≠ a
  nq : pf ≠ q
  ex : ∃ xs, H pf = some (.lst xs) ∧ Rps K H ds xs
  len : ds.length ≤ p
section
variable {K : PySem.W.Frag} {mg : Str → Option Value} {H0 H H' : Hp} {a q : Addr} {p p' : Nat} {ws : List (List Nat)} {pf : Addr} {ds : List PyData} {σ : L2.St} {D : Ends}
theorem FoundAt.new (L : LineAt mg H0 a q p ws) (hp : p ≤ ws.length) (hn : H0 pf = none) : FoundAt K mg H0 (upd H0 pf (.lst [])) a q p ws pf [] := by
  have L0 := L
  obtain ⟨C, dx, h0, h1, h2⟩ := L
  have na : pf ≠ a := fun z => by rw [z, h1] at hn; cases hn
  have nq : pf ≠ q := fun z => by rw [z, h2] at hn; cases hn
  have s : Same H0 (upd H0 pf (.lst [])) := fun b o e => by
    rw [upd_ne (ne_of_none e hn)]
    exact e
  exact ⟨L0.same s, hp, Others.same s, hn, na, nq, ⟨[], upd_same, rps_nil.mpr rfl⟩, Nat.zero_le _⟩
theorem FoundAt.step (F : FoundAt K mg H0 H a q p ws pf ds) (x : Others a H H') (L : LineAt mg H' a q p' ws) (h : p ≤ p') (h' : p' ≤ ws.length) : FoundAt K mg H0 H' a q p' ws pf ds := by
  obtain ⟨xs, h1, h2⟩ := F.ex
  exact ⟨L, h', F.o.trans x, F.hn, F.na, F.nq, ⟨xs, x _ _ F.na h1, Rps.mono (F.L.keepT x) _ _ h2⟩, Nat.le_trans F.len h⟩
theorem FoundAt.ev {i : Nat} (F : FoundAt K mg H0 H a q p ws pf ds) (e : σ[i]? = some (some (.ref pf))) : EvL (LW mg a q p ws) K (tVar i) σ H ds := by
  obtain ⟨xs, h1, h2⟩ := F.ex
  exact evp_var e ⟨pf, xs, rfl, h1, fun m => m.elim F.na F.nq, h2⟩
theorem FoundAt.app {d : PyData} {v : V} {xs : List V} (F : FoundAt K mg H0 H a q p ws pf ds) (h1 : H pf = some (.lst xs)) (h2 : Rps K H ds xs) (r : Rp K H d v) (hl : ds.length < p) : FoundAt K mg H0 (upd H pf (.lst (xs ++ [v]))) a q p ws pf (ds ++ [d]) := by
  have kt : KeepT H (upd H pf (.lst (xs ++ [v]))) := KeepT.mut h1 rfl
  obtain ⟨C, dx, g0, g1, g2⟩ := F.L
  refine ⟨⟨C, dx, g0, ?_, ?_⟩, F.hp, fun b o n e => ?_, F.hn, F.na, F.nq, ⟨_, upd_same, (Rps.mono kt _ _ h2).app (Rps.one (Rp.mono kt _ _ r))⟩, by rw [List.length_append]; exact hl⟩
  · rw [upd_ne (Ne.symm F.na)]; exact g1
  · rw [upd_ne (Ne.symm F.nq)]; exact g2
  · rw [upd_ne (ne_of_none e F.hn)]
    exact F.o b o n e
/-- found.append(d) -/
theorem app_last {i : Nat} {d : PyData} {te : TE} (F : FoundAt K mg H0 H a q p ws pf ds) (e : σ[i]? = some (some (.ref pf))) (hl : ds.length < p) (hz : ws.length ≤ 1000000) (h : Ev (LW mg a q p ws) K te σ H d) (k : ∀ H', FoundAt K mg H0 H' a q p ws pf (ds ++ [d]) → D.nx σ H') :
    tDrop (tBM K "list" rAppend (tVar i) (tCons te tNil)) D σ H := by
  obtain ⟨xs, h1, h2⟩ := F.ex
  refine ⟨_, e, .inl ⟨rfl, xs, SqL.of h1⟩, h.run (W := LW mg a q p ws) F.L fun v H2 x2 r => ?_⟩
  have F2 := F.step (lw_others x2) x2.2.1 (Nat.le_refl _) F.hp
  have g1 := lw_others x2 _ _ F.na h1
  have g2 := Rps.mono (F.L.keepT (lw_others x2)) _ _ h2
  refine ⟨pf, xs, v, rfl, rfl, g1, ?_, k _ (F2.app g1 g2 r hl)⟩
  have := h2.len
  have := F.hp
  exact sz_lt (by omega)
/-- found.append(line.m(..)), m one that takes a word -/
theorem app_take {i : Nat} {r : PyData} {das : List PyData} {m : Str} {f : Nat → List (List Nat) → List PyData → LnOut → Prop} {W : WX} {ta : TE} {t : TA} (F : FoundAt K mg H0 H a q p ws pf ds) (e : σ[i]? = some (some (.ref pf))) (hs : EvSelf mg a q p ws ta σ H) (hm : m ≠ "at" ∧ m ≠ "words" ∧ m ≠ "place")
    (ht : EvA (LW mg a q p ws) K t σ H das) (hf : f p ws das (.ok r (p + 1))) (hp : p + 1 ≤ ws.length) (hz : ws.length ≤ 1000000) (k : ∀ H', FoundAt K mg H0 H' a q (p + 1) ws pf (ds ++ [r]) → D.nx σ H') :
    tDrop (tBM K "list" rAppend (tVar i) (tCons (tMT mg m (SpLn K mg f) W ta t) tNil)) D σ H := by
  obtain ⟨xs, h1, h2⟩ := F.ex
  refine ⟨_, e, .inl ⟨rfl, xs, SqL.of h1⟩, ln_ok hs F.L hm ht hf fun v H2 o2 L2 rv => ?_⟩
  have F2 := F.step o2 L2 (Nat.le_succ p) hp
  have g1 := o2 _ _ F.na h1
  have g2 := Rps.mono (F.L.keepT o2) _ _ h2
  have := F.len
  refine ⟨pf, xs, v, rfl, rfl, g1, ?_, k _ (F2.app g1 g2 rv (by omega))⟩
  have := h2.len
  exact sz_lt (by omega)
theorem app_bad {i : Nat} {j : Int} {das : List PyData} {m : Str} {f : Nat → List (List Nat) → List PyData → LnOut → Prop} {W : WX} {ta : TE} {t : TA} (F : FoundAt K mg H0 H a q p ws pf ds) (e : σ[i]? = some (some (.ref pf))) (hs : EvSelf mg a q p ws ta σ H) (hm : m ≠ "at" ∧ m ≠ "words" ∧ m ≠ "place")
    (ht : EvA (LW mg a q p ws) K t σ H das) (hf : f p ws das (.bad j)) (kE : OutX K mg (Others a H) "WrongLine" (wl 0 j) (fun c d H' => W c d σ H')) :
    tDrop (tBM K "list" rAppend (tVar i) (tCons (tMT mg m (SpLn K mg f) W ta t) tNil)) D σ H := by
  obtain ⟨xs, h1, h2⟩ := F.ex
  exact ⟨_, e, .inl ⟨rfl, xs, SqL.of h1⟩, ln_bad hs F.L hm ht hf kE⟩
/-- while not line.is_over(): .. -/
theorem ln_while {c : TT} {tb : TS} {p0 : Nat} (Inv : Nat → L2.St → Hp → Prop) (hL : ∀ p σ H, Inv p σ H → LineAt mg H a q p ws ∧ p ≤ ws.length) (hc : ∀ p σ H, Inv p σ H → EvT (LW mg a q p ws) c σ H (!decide (p = ws.length)))
    (hI : ∀ p σ H H', Inv p σ H → Others a H H' → LineAt mg H' a q p ws → Inv p σ H') (h0 : Inv p0 σ H)
    (hs : ∀ p σ H, Inv p σ H → p < ws.length → tb { D with nx := fun σ' H' => Inv (p + 1) σ' H', ct := fun σ' H' => Inv (p + 1) σ' H', bk := D.nx } σ H) (hd : ∀ σ H, Inv ws.length σ H → D.nx σ H) : tWhile c tb D σ H := by
  refine ⟨fun m σ H => ∃ p, Inv p σ H ∧ m = ws.length - p, ⟨_, p0, h0, rfl⟩, fun m σ1 H1 ⟨p, hi, hm⟩ => ?_⟩
  obtain ⟨L, hp⟩ := hL p σ1 H1 hi
  refine (hc p σ1 H1 hi).run (W := LW mg a q p ws) L fun H2 x2 => ?_
  have hi2 := hI p σ1 H1 H2 hi (lw_others x2) x2.2.1
  by_cases e : p = ws.length
  · rw [decide_eq_true e, Bool.not_true, if_neg (by decide)]
    rw [e] at hi2
    exact hd σ1 H2 hi2
  · rw [decide_eq_false e, Bool.not_false, if_pos rfl]
    refine ⟨fun σ' H' => Inv (p + 1) σ' H', fun σ' H' h => ⟨_, ?_, p + 1, h, rfl⟩, hs p σ1 H2 hi2 (by omega)⟩
    omega
theorem drop_at {p : Nat} (h : p < ws.length) : ws.drop p = ws[p] :: ws.drop (p + 1) := List.drop_eq_getElem_cons h
theorem outP_bad {R : List PyData ⊕ Nat} {n j : Nat} (h : R = .inr j) : outP R n = .bad (j : Nat) := by rw [h]; rfl
theorem outP_ok {R : List PyData ⊕ Nat} {n : Nat} {l : List PyData} (h : R = .inl l) : outP R n = .ok (.tuple l) n := by rw [h]; rfl
end
end Fd
-- D8
namespace Fd
open PySem PySem.Spec PyProof.Rows L2
theorem ixN_last {n : Nat} (h : 1 ≤ n) : ixN n (-1) = some (n - 1) := by
  unfold ixN
  split <;> rename_i z
  · omega
  · split <;> rename_i z2
    · congr 1
      omega
    · omega
section
variable {W : Wd} {K : PySem.W.Frag} {σ : L2.St} {H : Hp} {te : TE} {ds : List PyData} {d : PyData}
theorem ev_lastL (h : EvL W K te σ H ds) (hl : ds.getLast? = some d) : Ev W K (tOp (rIx K) te (tUn (rU fun i => .int (-i)) (tC (.int 1)))) σ H d := by
  have h1 : 1 ≤ ds.length := by
    cases ds with
    | nil => cases hl
    | cons _ _ => exact Nat.succ_le_succ (Nat.zero_le _)
  refine ev_ixL (es_of_l h) (ev_neg ev_int) (ixN_last h1) ?_
  rw [← hl, List.getLast?_eq_getElem?]
end
def fRows : Nat → List (List Nat) → List PyData → LnOut → Prop := fun p ws ds o => ∃ pp : Int, ds = [.int pp] ∧ o = outP (partsGo (rowOf pp) 3000 rowAdj [] p (ws.drop p)) ws.length ∧ p ≤ ws.length ∧ (∀ w ∈ ws, w.length ≤ 1000000) ∧ ws.length ≤ 1000000
section
variable {P : Program} {w : World} {K : PySem.W.Frag} {mg : Str → Option Value} {base : Heap}
theorem cd_rows_in (Z : Tz K mg) : Cd P w K mg base (L2.CX P w) 6 "rows_in" (SpLn K mg (fRows)) := by
  have T : Tx K mg := Z.toTx
  refine cd_ofX (k := 5) T.d_rows_in sc_rows_in (fun _ _ _ _ _ _ us hl => match us, hl with | [_, _], _ => rfl) (SpLn.len fun p ws ds r h => by obtain ⟨_, e, _⟩ := h; rw [e]; rfl) ?_
  intro fa cdv A outer s H0 vs Q E hr ⟨a, q, p0, ws, ds, us, o, e0, L, hds, hf, k1, k2⟩
  subst e0
  obtain ⟨pp, e1, e2, hp, hw, hz⟩ := hf
  subst e1 e2
  obtain ⟨v1, e, r1⟩ := rps1 hds
  subst e
  refine ⟨_, (pss_cons (ps_set (i := 2) sc_rows_in.nd rfl (Or.inl rfl) (pe_lst pa_nil))
    (pss_cons (ps_while (passes_of rfl) (pt_not (pt_val (pe_mT0 (ln_is_over Z) Z.line hr (by decide) (takes_of rfl rfl rfl rfl) (pv 0))))
      (pss_cons (ps_set (i := 3) sc_rows_in.nd rfl (Or.inl rfl) (pe_d (cd_row_of T) hr (by decide) (pa_cons (pe_mT0 (ln_take Z) Z.line hr (by decide) (takes_of rfl rfl rfl rfl) (pv 0)) (pa_cons (pv 1) pa_nil))))
      (pss_cons (ps_expr (pe_mT (ln_want Z) Z.line hr (by decide) (takes_of rfl rfl rfl rfl) (pv 0) (pa_cons (pe_and (pe_cmpR op_notN (pv 3) pe_non (nomark _)) (pe_one (pe_cmpR op_lt (pe_callB (kLen K) (by rfl) T.n_len PySem.boot_len (pa_cons (pv 2) pa_nil)) (pe_k T.k_MOST_ROWS) (nomark _)))) pa_nil)))
      (pss_cons (ps_if (pt_cmpR (op_ne0 hr.units0) (pv 2) (pe_lst pa_nil) (nomark _))
        (pss_one (ps_expr (pe_mT (ln_want Z) Z.line hr (by decide) (takes_of rfl rfl rfl rfl) (pv 0) (pa_cons (pe_and (pe_cmpR op_eq (pe_callB (kLen K) (by rfl) T.n_len PySem.boot_len (pa_cons (pe_ix (ixT K) (pv 3) pe_int (fun _ _ => rfl)) pa_nil)) (pe_callB (kLen K) (by rfl) T.n_len PySem.boot_len (pa_cons (pe_ix (ixT K) (pe_ix (ixL K) (pv 2) (pe_un un_neg pe_int) (fun _ _ => rfl)) pe_int (fun _ _ => rfl)) pa_nil)) (nomark _)) (pe_one (pe_cmpR (op_gtT hr.units0) (pe_ix (ixT K) (pv 3) pe_int (fun _ _ => rfl)) (pe_ix (ixT K) (pe_ix (ixL K) (pv 2) (pe_un un_neg pe_int) (fun _ _ => rfl)) pe_int (fun _ _ => rfl)) (nomark _)))) pa_nil)))) pss_nil)
      (pss_one (ps_expr (pe_bm PySem.F.plainAttrs_list PySem.F.slot_list_append PySem.F.type_list_append mt_append (pv 2) (pa_cons (pv 3) pa_nil))))))))
    (pss_one (ps_ret (pe_callTy (kTupOf K) (by rfl) T.n_tuple (by decide +kernel) (pa_cons (pv 2) pa_nil)))))), ?_⟩
  refine ⟨(by decide), fun pf hn => ?_⟩
  have F0 : FoundAt K mg H0 (upd H0 pf (.lst [])) a q p0 ws pf [] := FoundAt.new L hp hn
  generalize hR : partsGo (rowOf pp) 3000 rowAdj [] p0 (ws.drop p0) = R at k1 k2
  refine ln_while (p0 := p0) (fun p σ H => ∃ ds o3, σ = [some (.ref a), some v1, some (.ref pf), o3] ∧ FoundAt K mg H0 H a q p ws pf ds ∧ (∀ d ∈ ds, ∃ (ns : List Int) (n : Int), d = .tuple [.tuple (ns.map .int), .int n]) ∧ partsGo (rowOf pp) 3000 rowAdj ds p (ws.drop p) = R)
    (fun p σ H ⟨ds, o3, e, F, _⟩ => ⟨F.L, F.hp⟩) (fun p σ H ⟨ds, o3, e, F, _⟩ => ?_) (fun p σ H H' ⟨ds, o3, e, F, hd, g⟩ x L' => ⟨ds, o3, e, F.step x L' (Nat.le_refl _) F.hp, hd, g⟩) ⟨[], none, rfl, F0, (fun d hd => by cases hd), hR⟩ (fun p σ H ⟨ds, o3, e, F, hd, g⟩ hl => ?_) fun σ H ⟨ds, o3, e, F, hd, g⟩ => ?_
  · subst e
    exact et_not (et_B (ev_ln (ev_self rfl) (by decide) ea_nil ⟨rfl, rfl⟩))
  · subst e
    rw [drop_at hl] at g
    have hwl := hw _ (List.getElem_mem hl)
    have r1' := Rp.mono (L.keepT F.o) _ _ r1
    refine take_call (ev_self rfl) F.L (List.getElem?_eq_getElem hl) (fun H1 o1 _ => ea_cons (ev_var rfl (Rp.mono (F.L.keepT o1) _ _ r1')) ea_nil) ⟨_, _, rfl, rfl, hwl⟩ fun v3 H1 o1 L1 r3 => ?_
    have F1 := F.step o1 L1 (Nat.le_succ p) hl
    generalize hd' : rowOf pp ws[p] = d at r3
    have g' : (if (!isNone d && decide (ds.length < 3000) && fits rowAdj ds d) = true then partsGo (rowOf pp) 3000 rowAdj (ds ++ [d]) (p + 1) (ws.drop (p + 1)) else .inr p) = R := by
      rw [← g, ← hd']
      rfl
    have bad : (!isNone d && decide (ds.length < 3000) && fits rowAdj ds d) = false → OutX K mg (Others a H0) "WrongLine" (wl 0 (p : Nat)) E := fun hb => k2 _ (outP_bad (by rw [← g', if_neg (by rw [hb]; decide)]))
    have e3 : decide ((ds.length : Int) < 3000) = decide (ds.length < 3000) := decide_eq_decide.mpr (by omega)
    refine want_then (ev_self rfl) L1 (ea_cons (ev_and (ev_notN (ev_var rfl r3) ev_non) fun _ => ev_opB0 (ev_len (es_of_l (F1.ev rfl))) ev_int) ea_nil) (fun hb H2 o2 L2 => ?_) fun hb => (bad (by rw [e3] at hb; rw [hb]; rfl)).imp fun H' o' => F1.o.trans o'
    rw [e3] at hb
    have F2 := F1.step o2 L2 (Nat.le_refl _) hl
    have r3' := Rp.mono (L1.keepT o2) _ _ r3
    have hdn : isNone d = false := by
      rw [Bool.and_eq_true, Bool.not_eq_true'] at hb
      exact hb.1
    obtain ⟨ns, n, ed, _⟩ := rowOf_some (by rw [hd']; exact hdn)
    rw [hd'] at ed
    have fin : ∀ (D : Ends) H3, FoundAt K mg H0 H3 a q (p + 1) ws pf ds → Rp K H3 d v3 → fits rowAdj ds d = true → (∀ H', (∃ ds' o3', [some (.ref a), some v1, some (.ref pf), some v3] = [some (V.ref a), some v1, some (.ref pf), o3'] ∧ FoundAt K mg H0 H' a q (p + 1) ws pf ds' ∧ (∀ d ∈ ds', ∃ (ns : List Int) (n : Int), d = .tuple [.tuple (ns.map .int), .int n]) ∧ partsGo (rowOf pp) 3000 rowAdj ds' (p + 1) (ws.drop (p + 1)) = R) → D.nx [some (.ref a), some v1, some (.ref pf), some v3] H') →
        tDrop (tBM K "list" rAppend (tVar 2) (tCons (tVar 3) tNil)) D [some (.ref a), some v1, some (.ref pf), some v3] H3 := fun D H3 F3 r hf kk => by
      have := F.len
      refine app_last F3 rfl (by omega) hz (ev_var rfl r) fun H4 F4 => kk H4 ⟨_, _, rfl, F4, fun c hc => ?_, ?_⟩
      · rcases List.mem_append.mp hc with z | z
        · exact hd c z
        · rw [List.mem_singleton.mp z]
          exact ⟨ns, n, ed⟩
      · rw [← g', hb, hf]
        rfl
    refine if_then (W := LW mg a q (p + 1) ws) L2 (et_of (ev_eq0L (neg := true) (er_of_l (F2.ev rfl)))) (fun hb2 H3 x3 => ?_) fun hb2 H3 x3 => ?_
    · cases hlast : ds.getLast? with
      | none =>
        rw [List.getLast?_eq_none_iff] at hlast
        rw [hlast] at hb2
        cases hb2
      | some l =>
        obtain ⟨ms, m, el⟩ := hd l (List.mem_of_getLast? hlast)
        have F3 := F2.step (lw_others x3) x3.2.1 (Nat.le_refl _) hl
        have r3'' := x3.rp r3'
        have hfit : fits rowAdj ds d = (decide (ns.length = ms.length) && HT.lexLt ms ns) := by
          unfold fits
          rw [hlast, ed, el]
          show (decide ((ns.map PyData.int).length = (ms.map PyData.int).length) && HT.lexLt (keyOf _) (keyOf _)) = _
          rw [keyOf_row, keyOf_row, List.length_map, List.length_map]
        have e4 : decide ((((ns.map PyData.int).length : Nat) : Int) = (((ms.map PyData.int).length : Nat) : Int)) = decide (ns.length = ms.length) := by
          rw [List.length_map, List.length_map]
          exact decide_eq_decide.mpr Int.ofNat_inj
        subst ed
        rw [el] at hlast
        refine want_last (ev_self rfl) x3.2.1 (ea_cons (ev_and (ev_eqI (ev_len (es_of_t (ev_at (j := 0) (ev_var rfl r3'') rfl))) (ev_len (es_of_t (ev_at (j := 0) (ev_lastL (F3.ev rfl) hlast) rfl)))) fun _ => ev_gtT (ev_at (j := 0) (ev_var rfl r3'') rfl) (ev_at (j := 0) (ev_lastL (F3.ev rfl) hlast) rfl)) ea_nil) (fun hb3 H4 o4 L4 => ?_) fun hb3 => ?_
        · refine fin _ H4 (F3.step o4 L4 (Nat.le_refl _) hl) (Rp.mono (x3.2.1.keepT o4) _ _ r3'') ?_ fun H' h => h
          rw [hfit, ← e4]
          exact hb3
        · refine (bad ?_).imp fun H' o' => F3.o.trans o'
          rw [hfit, ← e4, hb3, Bool.and_false]
    · have hnil : ds = [] := by
        cases ds with
        | nil => rfl
        | cons c r => cases hb2
      refine fin _ H3 (F2.step (lw_others x3) x3.2.1 (Nat.le_refl _) hl) (x3.rp r3') ?_ fun H' h => h
      rw [hnil]
      rfl
  · subst e
    rw [List.drop_length] at g
    exact retLn k1 F.o F.L (ev_tupOf (F.ev rfl)) (outP_ok g.symm)
end
end Fd
-- D9
namespace Fd
open PySem PySem.Spec PyProof.Rows L2
abbrev okWs (p : Nat) (ws : List (List Nat)) : Prop := p ≤ ws.length ∧ (∀ w ∈ ws, w.length ≤ 1000000) ∧ ws.length ≤ 1000000
def fTies : Nat → List (List Nat) → List PyData → LnOut → Prop := fun p ws ds o => ds = [] ∧ o = outP (partsGo tieOf 80 tieAdj [] p (ws.drop p)) ws.length ∧ okWs p ws
def fSets : Nat → List (List Nat) → List PyData → LnOut → Prop := fun p ws ds o => ds = [] ∧ o = outP (partsGo setOf 159 noAdj [] p (ws.drop p)) ws.length ∧ okWs p ws
def fIdx : Nat → List (List Nat) → List PyData → LnOut → Prop := fun p ws ds o => ds = [] ∧ o = outP (partsGo idxOf 400 noAdj [] p (ws.drop p)) ws.length ∧ okWs p ws
theorem setOf_eq (w : List Nat) : setOf w = (match listOf w with | some ns => if setB (.tuple (ns.map .int)) = true then .tuple (ns.map .int) else .none | none => .none) := by
  unfold setOf
  cases listOf w with
  | none => rfl
  | some ns =>
    dsimp only
    unfold setB
    rw [lotB_map]
theorem fits_no (ds : List PyData) (d : PyData) : fits noAdj ds d = true := by
  unfold fits
  cases ds.getLast? <;> rfl
section
variable {P : Program} {w : World} {K : PySem.W.Frag} {mg : Str → Option Value} {base : Heap}
theorem cd_match_in (Z : Tz K mg) : Cd P w K mg base (L2.CX P w) 6 "match_in" (SpLn K mg (fTies)) := by
  have T : Tx K mg := Z.toTx
  refine cd_ofX (k := 5) T.d_match_in sc_match_in (fun _ _ _ _ _ _ us hl => match us, hl with | [_], _ => rfl) (SpLn.len fun p ws ds r h => by obtain ⟨e, _⟩ := h; rw [e]; rfl) ?_
  intro fa cdv A outer s H0 vs Q E hr ⟨a, q, p0, ws, ds, us, o, e0, L, hds, hf, k1, k2⟩
  subst e0
  obtain ⟨e1, e2, hok⟩ := hf
  subst e1 e2
  have e := rps_nil.mp hds
  subst e
  refine ⟨_, (pss_cons (ps_set (i := 1) sc_match_in.nd rfl (Or.inl rfl) (pe_lst pa_nil))
    (pss_cons (ps_while (passes_of rfl) (pt_not (pt_val (pe_mT0 (ln_is_over Z) Z.line hr (by decide) (takes_of rfl rfl rfl rfl) (pv 0))))
      (pss_cons (ps_set (i := 2) sc_match_in.nd rfl (Or.inl rfl) (pe_d (cd_pair_of T) hr (by decide) (pa_cons (pe_mT0 (ln_take Z) Z.line hr (by decide) (takes_of rfl rfl rfl rfl) (pv 0)) pa_nil)))
      (pss_cons (ps_expr (pe_mT (ln_want Z) Z.line hr (by decide) (takes_of rfl rfl rfl rfl) (pv 0) (pa_cons (pe_and (pe_cmpR op_notN (pv 2) pe_non (nomark _)) (pe_one (pe_cmpR op_lt (pe_callB (kLen K) (by rfl) T.n_len PySem.boot_len (pa_cons (pv 1) pa_nil)) (pe_k T.k_MOST_PAIRS) (nomark _)))) pa_nil)))
      (pss_cons (ps_expr (pe_mT (ln_want Z) Z.line hr (by decide) (takes_of rfl rfl rfl rfl) (pv 0) (pa_cons (pe_or (pe_cmpR (op_eq0 hr.units0) (pv 1) (pe_lst pa_nil) (nomark _)) (pe_one (pe_cmpR op_gt (pe_ix (ixT K) (pv 2) pe_int (fun _ _ => rfl)) (pe_ix (ixT K) (pe_ix (ixL K) (pv 1) (pe_un un_neg pe_int) (fun _ _ => rfl)) pe_int (fun _ _ => rfl)) (nomark _)))) pa_nil)))
      (pss_one (ps_expr (pe_bm PySem.F.plainAttrs_list PySem.F.slot_list_append PySem.F.type_list_append mt_append (pv 1) (pa_cons (pv 2) pa_nil))))))))
    (pss_one (ps_ret (pe_callTy (kTupOf K) (by rfl) T.n_tuple (by decide +kernel) (pa_cons (pv 1) pa_nil)))))), ?_⟩
  obtain ⟨hp, hw, hz⟩ := hok
  refine ⟨(by decide), fun pf hn => ?_⟩
  have F0 : FoundAt K mg H0 (upd H0 pf (.lst [])) a q p0 ws pf [] := FoundAt.new L hp hn
  generalize hR : partsGo tieOf 80 tieAdj [] p0 (ws.drop p0) = R at k1 k2
  refine ln_while (p0 := p0) (fun p σ H => ∃ ds o3, σ = [some (.ref a), some (.ref pf), o3] ∧ FoundAt K mg H0 H a q p ws pf ds ∧ (∀ d ∈ ds, ∃ x y : Int, d = .tuple [.int x, .int y]) ∧ partsGo tieOf 80 tieAdj ds p (ws.drop p) = R)
    (fun p σ H ⟨ds, o3, e, F, _⟩ => ⟨F.L, F.hp⟩) (fun p σ H ⟨ds, o3, e, F, _⟩ => ?_) (fun p σ H H' ⟨ds, o3, e, F, hd, g⟩ x L' => ⟨ds, o3, e, F.step x L' (Nat.le_refl _) F.hp, hd, g⟩) ⟨[], none, rfl, F0, (fun d hd => by cases hd), hR⟩ (fun p σ H ⟨ds, o3, e, F, hd, g⟩ hl => ?_) fun σ H ⟨ds, o3, e, F, hd, g⟩ => ?_
  · subst e
    exact et_not (et_B (ev_ln (ev_self rfl) (by decide) ea_nil ⟨rfl, rfl⟩))
  · subst e
    rw [drop_at hl] at g
    have hwl := hw _ (List.getElem_mem hl)
    refine take_call (ev_self rfl) F.L (List.getElem?_eq_getElem hl) (fun H1 o1 _ => ea_nil) ⟨_, rfl, rfl, hwl⟩ fun v3 H1 o1 L1 r3 => ?_
    have F1 := F.step o1 L1 (Nat.le_succ p) hl
    generalize hd' : tieOf ws[p] = d at r3
    have g' : (if (!isNone d && decide (ds.length < 80) && fits tieAdj ds d) = true then partsGo tieOf 80 tieAdj (ds ++ [d]) (p + 1) (ws.drop (p + 1)) else .inr p) = R := by
      rw [← g, ← hd']
      rfl
    have bad : (!isNone d && decide (ds.length < 80) && fits tieAdj ds d) = false → OutX K mg (Others a H0) "WrongLine" (wl 0 (p : Nat)) E := fun hb => k2 _ (outP_bad (by rw [← g', if_neg (by rw [hb]; decide)]))
    have e3 : decide ((ds.length : Int) < 80) = decide (ds.length < 80) := decide_eq_decide.mpr (by omega)
    refine want_then (ev_self rfl) L1 (ea_cons (ev_and (ev_notN (ev_var rfl r3) ev_non) fun _ => ev_opB0 (ev_len (es_of_l (F1.ev rfl))) ev_int) ea_nil) (fun hb H2 o2 L2 => ?_) fun hb => (bad (by rw [e3] at hb; rw [hb]; rfl)).imp fun H' o' => F1.o.trans o'
    rw [e3] at hb
    have F2 := F1.step o2 L2 (Nat.le_refl _) hl
    have r3' := Rp.mono (L1.keepT o2) _ _ r3
    have hdn : isNone d = false := by
      rw [Bool.and_eq_true, Bool.not_eq_true'] at hb
      exact hb.1
    obtain ⟨x, y, ed⟩ := tieOf_some (by rw [hd']; exact hdn)
    rw [hd'] at ed
    refine want_then (b := fits tieAdj ds d) (ev_self rfl) L2 (ea_cons ?_ ea_nil) (fun hb3 H3 o3 L3 => ?_) fun hb3 => ?_
    · cases hlast : ds.getLast? with
      | none =>
        have hnil : ds = [] := List.getLast?_eq_none_iff.mp hlast
        subst hnil
        exact ev_or (b := true) (ev_eq0L (neg := false) (er_of_l (F2.ev rfl))) fun h => by cases h
      | some l =>
        obtain ⟨x', y', el⟩ := hd l (List.mem_of_getLast? hlast)
        have hfit : fits tieAdj ds d = decide (x' < x) := by
          unfold fits
          rw [hlast, ed, el]
          rfl
        have hne : ds.length ≠ 0 := fun z => by
          rw [List.length_eq_zero_iff.mp z] at hlast
          cases hlast
        subst ed
        rw [el] at hlast
        rw [hfit]
        refine ev_is (ev_or (ev_is (f := .bool false) (ev_eq0L (neg := false) (er_of_l (F2.ev rfl))) (congrArg PyData.bool (by rw [if_neg (by decide)]; exact decide_eq_false hne))) fun _ => ev_opB0 (ev_at (j := 0) (ev_var rfl r3') rfl) (ev_at (j := 0) (ev_lastL (F2.ev rfl) hlast) rfl)) ?_
        rfl
    · have F3 := F2.step o3 L3 (Nat.le_refl _) hl
      have := F.len
      refine app_last F3 rfl (by omega) hz (ev_var rfl (Rp.mono (L2.keepT o3) _ _ r3')) fun H4 F4 => ⟨_, _, rfl, F4, fun c hc => ?_, ?_⟩
      · rcases List.mem_append.mp hc with z | z
        · exact hd c z
        · rw [List.mem_singleton.mp z]
          exact ⟨x, y, ed⟩
      · rw [← g', hb, hb3]
        rfl
    · exact (bad (by rw [hb3, Bool.and_false])).imp fun H' o' => F2.o.trans o'
  · subst e
    rw [List.drop_length] at g
    exact retLn k1 F.o F.L (ev_tupOf (F.ev rfl)) (outP_ok g.symm)
theorem cd_sets_in (Z : Tz K mg) : Cd P w K mg base (L2.CX P w) 6 "sets_in" (SpLn K mg (fSets)) := by
  have T : Tx K mg := Z.toTx
  refine cd_ofX (k := 5) T.d_sets_in sc_sets_in (fun _ _ _ _ _ _ us hl => match us, hl with | [_], _ => rfl) (SpLn.len fun p ws ds r h => by obtain ⟨e, _⟩ := h; rw [e]; rfl) ?_
  intro fa cdv A outer s H0 vs Q E hr ⟨a, q, p0, ws, ds, us, o, e0, L, hds, hf, k1, k2⟩
  subst e0
  obtain ⟨e1, e2, hok⟩ := hf
  subst e1 e2
  have e := rps_nil.mp hds
  subst e
  refine ⟨_, (pss_cons (ps_set (i := 1) sc_sets_in.nd rfl (Or.inl rfl) (pe_lst pa_nil))
    (pss_cons (ps_while (passes_of rfl) (pt_not (pt_val (pe_mT0 (ln_is_over Z) Z.line hr (by decide) (takes_of rfl rfl rfl rfl) (pv 0))))
      (pss_cons (ps_set (i := 2) sc_sets_in.nd rfl (Or.inl rfl) (pe_d (cd_list_of T) hr (by decide) (pa_cons (pe_mT0 (ln_take Z) Z.line hr (by decide) (takes_of rfl rfl rfl rfl) (pv 0)) pa_nil)))
      (pss_cons (ps_expr (pe_mT (ln_want Z) Z.line hr (by decide) (takes_of rfl rfl rfl rfl) (pv 0) (pa_cons (pe_and (pe_cmpR op_notN (pv 2) pe_non (nomark _)) (pe_and (pe_d (cd_is_set T) hr (by decide) (pa_cons (pv 2) pa_nil)) (pe_one (pe_cmpR op_lt (pe_callB (kLen K) (by rfl) T.n_len PySem.boot_len (pa_cons (pv 1) pa_nil)) (pe_k T.k_MOST_SETS) (nomark _))))) pa_nil)))
      (pss_one (ps_expr (pe_bm PySem.F.plainAttrs_list PySem.F.slot_list_append PySem.F.type_list_append mt_append (pv 1) (pa_cons (pv 2) pa_nil)))))))
    (pss_one (ps_ret (pe_callTy (kTupOf K) (by rfl) T.n_tuple (by decide +kernel) (pa_cons (pv 1) pa_nil)))))), ?_⟩
  obtain ⟨hp, hw, hz⟩ := hok
  refine ⟨(by decide), fun pf hn => ?_⟩
  have F0 : FoundAt K mg H0 (upd H0 pf (.lst [])) a q p0 ws pf [] := FoundAt.new L hp hn
  generalize hR : partsGo setOf 159 noAdj [] p0 (ws.drop p0) = R at k1 k2
  refine ln_while (p0 := p0) (fun p σ H => ∃ ds o3, σ = [some (.ref a), some (.ref pf), o3] ∧ FoundAt K mg H0 H a q p ws pf ds ∧ partsGo setOf 159 noAdj ds p (ws.drop p) = R)
    (fun p σ H ⟨ds, o3, e, F, _⟩ => ⟨F.L, F.hp⟩) (fun p σ H ⟨ds, o3, e, F, _⟩ => ?_) (fun p σ H H' ⟨ds, o3, e, F, g⟩ x L' => ⟨ds, o3, e, F.step x L' (Nat.le_refl _) F.hp, g⟩) ⟨[], none, rfl, F0, hR⟩ (fun p σ H ⟨ds, o3, e, F, g⟩ hl => ?_) fun σ H ⟨ds, o3, e, F, g⟩ => ?_
  · subst e
    exact et_not (et_B (ev_ln (ev_self rfl) (by decide) ea_nil ⟨rfl, rfl⟩))
  · subst e
    rw [drop_at hl] at g
    have hwl := hw _ (List.getElem_mem hl)
    refine take_call (ev_self rfl) F.L (List.getElem?_eq_getElem hl) (fun H1 o1 _ => ea_nil) ⟨_, rfl, rfl, hwl⟩ fun v3 H1 o1 L1 r3 => ?_
    have F1 := F.step o1 L1 (Nat.le_succ p) hl
    have g' : (if (!isNone (setOf ws[p]) && decide (ds.length < 159)) = true then partsGo setOf 159 noAdj (ds ++ [setOf ws[p]]) (p + 1) (ws.drop (p + 1)) else .inr p) = R := by
      rw [← g]
      have : partsGo setOf 159 noAdj ds p (ws[p] :: ws.drop (p + 1)) = (if (!isNone (setOf ws[p]) && decide (ds.length < 159) && fits noAdj ds (setOf ws[p])) = true then partsGo setOf 159 noAdj (ds ++ [setOf ws[p]]) (p + 1) (ws.drop (p + 1)) else .inr p) := rfl
      rw [this, fits_no, Bool.and_true]
    have bad : (!isNone (setOf ws[p]) && decide (ds.length < 159)) = false → OutX K mg (Others a H0) "WrongLine" (wl 0 (p : Nat)) E := fun hb => k2 _ (outP_bad (by rw [← g', if_neg (by rw [hb]; decide)]))
    have e3 : decide ((ds.length : Int) < 159) = decide (ds.length < 159) := decide_eq_decide.mpr (by omega)
    cases hl2 : listOf ws[p] with
    | none =>
      have hs : setOf ws[p] = .none := by rw [setOf_eq, hl2]
      rw [hs] at bad
      rw [hl2] at r3
      exact want_then (b := false) (ev_self rfl) L1 (ea_cons (ev_and (b := false) (ev_notN (ev_var rfl r3) ev_non) fun h => by cases h) ea_nil) (fun h => by cases h) fun _ => (bad rfl).imp fun H' o' => F1.o.trans o'
    | some ns =>
      rw [hl2] at r3
      refine want_then (ev_self rfl) L1 (ea_cons (ev_and (ev_notN (ev_var rfl r3) ev_non) fun _ => ev_and (ev_call (ea_cons (ev_var rfl r3) ea_nil) ⟨_, rfl, rfl⟩) fun _ => ev_opB0 (ev_len (es_of_l (F1.ev rfl))) ev_int) ea_nil) (fun hb H2 o2 L2 => ?_) fun hb => ?_
      · have hb' : (setB (.tuple (ns.map .int)) && decide ((ds.length : Int) < 159)) = true := hb
        rw [e3, Bool.and_eq_true] at hb'
        have hs : setOf ws[p] = .tuple (ns.map .int) := by
          rw [setOf_eq, hl2]
          exact if_pos hb'.1
        rw [hs, hb'.2] at g'
        have F2 := F1.step o2 L2 (Nat.le_refl _) hl
        have := F.len
        exact app_last F2 rfl (by omega) hz (ev_var rfl (Rp.mono (L1.keepT o2) _ _ r3)) fun H4 F4 => ⟨_, _, rfl, F4, g'⟩
      · have hb' : (setB (.tuple (ns.map .int)) && decide ((ds.length : Int) < 159)) = false := hb
        rw [e3] at hb'
        refine (bad ?_).imp fun H' o' => F1.o.trans o'
        rw [setOf_eq, hl2]
        dsimp only
        cases h1 : setB (.tuple (ns.map .int)) with
        | false => rfl
        | true =>
          rw [h1, Bool.true_and] at hb'
          rw [hb', Bool.and_false]
  · subst e
    rw [List.drop_length] at g
    exact retLn k1 F.o F.L (ev_tupOf (F.ev rfl)) (outP_ok g.symm)
theorem cd_indices_in (Z : Tz K mg) : Cd P w K mg base (L2.CX P w) 7 "indices_in" (SpLn K mg (fIdx)) := by
  have T : Tx K mg := Z.toTx
  refine cd_ofX (k := 6) T.d_indices_in sc_indices_in (fun _ _ _ _ _ _ us hl => match us, hl with | [_], _ => rfl) (SpLn.len fun p ws ds r h => by obtain ⟨e, _⟩ := h; rw [e]; rfl) ?_
  intro fa cdv A outer s H0 vs Q E hr ⟨a, q, p0, ws, ds, us, o, e0, L, hds, hf, k1, k2⟩
  subst e0
  obtain ⟨e1, e2, hok⟩ := hf
  subst e1 e2
  have e := rps_nil.mp hds
  subst e
  refine ⟨_, (pss_cons (ps_set (i := 1) sc_indices_in.nd rfl (Or.inl rfl) (pe_lst pa_nil))
    (pss_cons (ps_while (passes_of rfl) (pt_not (pt_val (pe_mT0 (ln_is_over Z) Z.line hr (by decide) (takes_of rfl rfl rfl rfl) (pv 0))))
      (pss_cons (ps_expr (pe_bm PySem.F.plainAttrs_list PySem.F.slot_list_append PySem.F.type_list_append mt_append (pv 1) (pa_cons (pe_mT (ln_take_number Z) Z.line hr (by decide) (takes_of rfl rfl rfl rfl) (pv 0) (pa_cons pe_int (pa_cons (pe_k T.k_HIGHEST) pa_nil))) pa_nil)))
      (pss_one (ps_expr (pe_mT (ln_want Z) Z.line hr (by decide) (takes_of rfl rfl rfl rfl) (pv 0) (pa_cons (pe_cmpR op_le (pe_callB (kLen K) (by rfl) T.n_len PySem.boot_len (pa_cons (pv 1) pa_nil)) (pe_k T.k_MOST_INDICES) (nomark _)) pa_nil))))))
    (pss_one (ps_ret (pe_callTy (kTupOf K) (by rfl) T.n_tuple (by decide +kernel) (pa_cons (pv 1) pa_nil)))))), ?_⟩
  obtain ⟨hp, hw, hz⟩ := hok
  refine ⟨(by decide), fun pf hn => ?_⟩
  have F0 : FoundAt K mg H0 (upd H0 pf (.lst [])) a q p0 ws pf [] := FoundAt.new L hp hn
  generalize hR : partsGo idxOf 400 noAdj [] p0 (ws.drop p0) = R at k1 k2
  refine ln_while (p0 := p0) (fun p σ H => ∃ ds, σ = [some (.ref a), some (.ref pf)] ∧ FoundAt K mg H0 H a q p ws pf ds ∧ partsGo idxOf 400 noAdj ds p (ws.drop p) = R)
    (fun p σ H ⟨ds, e, F, _⟩ => ⟨F.L, F.hp⟩) (fun p σ H ⟨ds, e, F, _⟩ => ?_) (fun p σ H H' ⟨ds, e, F, g⟩ x L' => ⟨ds, e, F.step x L' (Nat.le_refl _) F.hp, g⟩) ⟨[], rfl, F0, hR⟩ (fun p σ H ⟨ds, e, F, g⟩ hl => ?_) fun σ H ⟨ds, e, F, g⟩ => ?_
  · subst e
    exact et_not (et_B (ev_ln (ev_self rfl) (by decide) ea_nil ⟨rfl, rfl⟩))
  · subst e
    rw [drop_at hl] at g
    have hwl := hw _ (List.getElem_mem hl)
    have g' : (if (!isNone (idxOf ws[p]) && decide (ds.length < 400)) = true then partsGo idxOf 400 noAdj (ds ++ [idxOf ws[p]]) (p + 1) (ws.drop (p + 1)) else .inr p) = R := by
      rw [← g]
      have : partsGo idxOf 400 noAdj ds p (ws[p] :: ws.drop (p + 1)) = (if (!isNone (idxOf ws[p]) && decide (ds.length < 400) && fits noAdj ds (idxOf ws[p])) = true then partsGo idxOf 400 noAdj (ds ++ [idxOf ws[p]]) (p + 1) (ws.drop (p + 1)) else .inr p) := rfl
      rw [this, fits_no, Bool.and_true]
    have bad : (!isNone (idxOf ws[p]) && decide (ds.length < 400)) = false → OutX K mg (Others a H0) "WrongLine" (wl 0 (p : Nat)) E := fun hb => k2 _ (outP_bad (by rw [← g', if_neg (by rw [hb]; decide)]))
    have hg : ws[p]? = some ws[p] := List.getElem?_eq_getElem hl
    cases hn : numOf ws[p] with
    | none =>
      have hs : idxOf ws[p] = .none := by unfold idxOf; rw [hn]; rfl
      rw [hs] at bad
      exact app_bad F rfl (ev_self rfl) (by decide) (ea_cons ev_int (ea_cons ev_int ea_nil)) ⟨_, _, rfl, by rw [hg]; dsimp only; rw [hn], F.hp, hw⟩ ((bad rfl).imp fun H' o' => F.o.trans o')
    | some n =>
      have hs : idxOf ws[p] = .int n := by unfold idxOf; rw [hn]; rfl
      rw [hs] at bad g'
      have gn := numOf_gr hn
      have hr : (decide (0 ≤ n) && decide (n ≤ 99999999999999999999)) = true := by
        rw [Bool.and_eq_true, decide_eq_true_eq, decide_eq_true_eq]
        exact gn
      refine app_take (r := .int n) F rfl (ev_self rfl) (by decide) (ea_cons ev_int (ea_cons ev_int ea_nil)) ⟨_, _, rfl, by rw [hg]; dsimp only; rw [hn]; dsimp only; rw [if_pos hr], F.hp, hw⟩ hl hz fun H1 F1 => ?_
      refine want_last (ev_self rfl) F1.L (ea_cons (ev_opB0 (ev_len (es_of_l (F1.ev rfl))) ev_int) ea_nil) (fun hb H2 o2 L2 => ⟨_, rfl, F1.step o2 L2 (Nat.le_refl _) hl, ?_⟩) fun hb => ?_
      · rw [decide_eq_true_eq, List.length_append] at hb
        have : ds.length < 400 := by
          simp only [List.length_cons, List.length_nil] at hb
          omega
        rw [decide_eq_true this] at g'
        exact g'
      · rw [decide_eq_false_iff_not, List.length_append] at hb
        refine (bad ?_).imp fun H' o' => F1.o.trans o'
        have : ¬ ds.length < 400 := by
          simp only [List.length_cons, List.length_nil] at hb
          omega
        rw [decide_eq_false this]
        rfl
  · subst e
    rw [List.drop_length] at g
    exact retLn k1 F.o F.L (ev_tupOf (F.ev rfl)) (outP_ok g.symm)
end
end Fd
-- D10
namespace Fd
open PySem PySem.Spec PyProof.Rows L2
def crowdGo (p : Nat) (ws : List (List Nat)) : LnOut :=
  match ws[p]? with
  | none => .bad (p : Nat)
  | some w1 => match numOf w1 with
    | some n => if (decide (0 ≤ n) && decide (n ≤ 1)) = true then
        (match ws[p + 1]? with
        | none => .bad (p + 1 : Nat)
        | some w2 => match listOf w2 with
          | some ns => if decide (ns.length ≤ 80) = true then .ok (.tuple [.str tCrowd, .int n, .tuple (ns.map .int)]) (p + 2) else .bad (p + 1 : Nat)
          | none => .bad (p + 1 : Nat))
      else .bad (p : Nat)
    | none => .bad (p : Nat)
def fCrowd : Nat → List (List Nat) → List PyData → LnOut → Prop := fun p ws ds o => ds = [] ∧ o = crowdGo p ws ∧ okWs p ws
/-- what stands behind the first word -/
def withW (w : List Nat) : LnOut → LnOut
  | .ok r p => .ok (.tuple [.str (S w), r]) p
  | .bad j => .bad j
def readLine (ws : List (List Nat)) : LnOut :=
  match ws with
  | [] => .bad 0
  | w :: r =>
    if (decide (S w = tFill) || decide (S w = tSight)) = true then withW w (outP (partsGo (rowOf 97) 3000 rowAdj [] 1 r) ws.length)
    else if S w = tCrowd then crowdGo 1 ws
    else if S w = tMatch then withW w (outP (partsGo tieOf 80 tieAdj [] 1 r) ws.length)
    else if S w = tPlan then withW w (outP (partsGo setOf 159 noAdj [] 1 r) ws.length)
    else if S w = tVine then withW w (outP (partsGo idxOf 400 noAdj [] 1 r) ws.length)
    else .bad 0
def fPaper : Nat → List (List Nat) → List PyData → LnOut → Prop := fun p ws ds o => ds = [] ∧ o = readLine ws ∧ p = 0 ∧ okWs 0 ws ∧ ws ≠ []
section
variable {K : PySem.W.Frag} {mg : Str → Option Value} {H H' : Hp} {a q : Addr} {p p' : Nat} {ws : List (List Nat)} {ds : List PyData} {σ : L2.St} {D : Ends} {f : Nat → List (List Nat) → List PyData → LnOut → Prop} {W : WX} {r : PyData} {t : TA} {ta : TE} {Q : VK} {j : Int}
/-- a def of the line -/
theorem lc_ok (hs : EvSelf mg a q p ws ta σ H) (L : LineAt mg H a q p ws) (ht : EvA (LW mg a q p ws) K t σ H ds) (hf : f p ws ds (.ok r p')) (k : ∀ v H', Others a H H' → LineAt mg H' a q p' ws → Rp K H' r v → Q v H') :
    tCallS (SpLn K mg f) (WE W) (tCons ta t) σ H Q := hs H (Wx.refl (W := LW mg a q p ws) L) _ fun H2 x2 => ht H2 x2 _ fun us H3 x3 h3 => ⟨a, q, p, ws, ds, us, _, rfl, x3.2.1, h3, hf, fun r' p2 e v H' o L' hr => by
    cases e
    exact k v H' ((lw_others (x2.trans x3)).trans o) L' hr, fun j e => by cases e⟩
theorem lc_bad (hs : EvSelf mg a q p ws ta σ H) (L : LineAt mg H a q p ws) (ht : EvA (LW mg a q p ws) K t σ H ds) (hf : f p ws ds (.bad j)) (kE : OutX K mg (Others a H) "WrongLine" (wl 0 j) (fun c d H' => W c d σ H')) :
    tCallS (SpLn K mg f) (WE W) (tCons ta t) σ H Q := hs H (Wx.refl (W := LW mg a q p ws) L) _ fun H2 x2 => ht H2 x2 _ fun us H3 x3 h3 => ⟨a, q, p, ws, ds, us, _, rfl, x3.2.1, h3, hf, fun r' p2 e => (by cases e), fun j' e => by
    cases e
    exact kE.imp fun H' o => (lw_others (x2.trans x3)).trans o⟩
end
section
variable {P : Program} {w : World} {K : PySem.W.Frag} {mg : Str → Option Value} {base : Heap}
theorem cd_crowd_in_line (Z : Tz K mg) : Cd P w K mg base (L2.CX P w) 7 "crowd_in_line" (SpLn K mg (fCrowd)) := by
  have T : Tx K mg := Z.toTx
  refine cd_ofX (k := 6) T.d_crowd_in_line sc_crowd_in_line (fun _ _ _ _ _ _ us hl => match us, hl with | [_], _ => rfl) (SpLn.len fun p ws ds r h => by obtain ⟨e, _⟩ := h; rw [e]; rfl) ?_
  intro fa cdv A outer s H0 vs Q E hr ⟨a, q, p0, ws, ds, us, o, e0, L, hds, hf, k1, k2⟩
  subst e0
  obtain ⟨e1, e2, hok⟩ := hf
  subst e1 e2
  have e := rps_nil.mp hds
  subst e
  refine ⟨_, (pss_cons (ps_set (i := 1) sc_crowd_in_line.nd rfl (Or.inl rfl) (pe_mT (ln_take_number Z) Z.line hr (by decide) (takes_of rfl rfl rfl rfl) (pv 0) (pa_cons pe_int (pa_cons pe_int pa_nil))))
    (pss_cons (ps_set (i := 2) sc_crowd_in_line.nd rfl (Or.inl rfl) (pe_d (cd_list_of T) hr (by decide) (pa_cons (pe_mT0 (ln_take Z) Z.line hr (by decide) (takes_of rfl rfl rfl rfl) (pv 0)) pa_nil)))
    (pss_cons (ps_expr (pe_mT (ln_want Z) Z.line hr (by decide) (takes_of rfl rfl rfl rfl) (pv 0) (pa_cons (pe_and (pe_cmpR op_notN (pv 2) pe_non (nomark _)) (pe_one (pe_cmpR op_le (pe_callB (kLen K) (by rfl) T.n_len PySem.boot_len (pa_cons (pv 2) pa_nil)) (pe_k T.k_MOST_PAIRS) (nomark _)))) pa_nil)))
    (pss_one (ps_ret (pe_tup (pa_cons pe_str (pa_cons (pv 1) (pa_cons (pv 2) pa_nil))))))))), ?_⟩
  obtain ⟨hp, hw, hz⟩ := hok
  unfold crowdGo at k1 k2
  cases e1 : ws[p0]? with
  | none =>
    rw [e1] at k1 k2
    exact ln_bad (ev_self rfl) L (by decide) (ea_cons ev_int (ea_cons ev_int ea_nil)) ⟨_, _, rfl, by rw [e1], hp, hw⟩ (k2 _ rfl)
  | some w1 =>
    rw [e1] at k1 k2
    dsimp only at k1 k2
    cases e2 : numOf w1 with
    | none =>
      rw [e2] at k1 k2
      exact ln_bad (ev_self rfl) L (by decide) (ea_cons ev_int (ea_cons ev_int ea_nil)) ⟨_, _, rfl, by rw [e1]; dsimp only; rw [e2], hp, hw⟩ (k2 _ rfl)
    | some n =>
      rw [e2] at k1 k2
      dsimp only at k1 k2
      by_cases e3 : (decide (0 ≤ n) && decide (n ≤ 1)) = true
      · rw [if_pos e3] at k1 k2
        refine ln_ok (r := .int n) (p' := p0 + 1) (ev_self rfl) L (by decide) (ea_cons ev_int (ea_cons ev_int ea_nil)) ⟨_, _, rfl, by rw [e1]; dsimp only; rw [e2]; dsimp only; rw [if_pos e3], hp, hw⟩ fun v1 H1 o1 L1 r1 => ?_
        have hp1 : p0 + 1 ≤ ws.length := (List.getElem?_eq_some_iff.mp e1).1
        cases e4 : ws[p0 + 1]? with
        | none =>
          rw [e4] at k1 k2
          exact take_bad (ev_self rfl) L1 hp1 e4 ((k2 _ rfl).imp fun H' o => o1.trans o)
        | some w2 =>
          rw [e4] at k1 k2
          dsimp only at k1 k2
          refine take_call (ev_self rfl) L1 e4 (fun H1 o1 _ => ea_nil) ⟨_, rfl, rfl, hw _ (List.mem_of_getElem? e4)⟩ fun v2 H2 o2 L2 r2 => ?_
          replace r1 := Rp.mono (L1.keepT o2) _ _ r1
          cases e5 : listOf w2 with
          | none =>
            rw [e5] at k1 k2 r2
            exact want_then (b := false) (ev_self rfl) L2 (ea_cons (ev_and (b := false) (ev_notN (ev_var rfl r2) ev_non) fun h => by cases h) ea_nil) (fun h => by cases h) fun _ => (k2 _ rfl).imp fun H' o => (o1.trans o2).trans o
          | some ns =>
            rw [e5] at k1 k2 r2
            dsimp only at k1 k2
            have e6 : decide (((ns.map PyData.int).length : Int) ≤ 80) = decide (ns.length ≤ 80) := by
              rw [List.length_map]
              exact decide_eq_decide.mpr (by omega)
            refine want_then (ev_self rfl) L2 (ea_cons (ev_and (ev_notN (ev_var rfl r2) ev_non) fun _ => ev_opB0 (ev_len (es_of_t (ev_var rfl r2))) ev_int) ea_nil) (fun hb H3 o3 L3 => ?_) fun hb => ?_
            · have hb' : decide (ns.length ≤ 80) = true := by rw [← e6]; exact hb
              rw [if_pos hb'] at k1
              have kT := L2.keepT o3
              exact retLn k1 ((o1.trans o2).trans o3) L3 (ev_tup (ea_cons ev_str (ea_cons (ev_var rfl (Rp.mono kT _ _ r1)) (ea_cons (ev_var rfl (Rp.mono kT _ _ r2)) ea_nil))) (by simp)) rfl
            · have hb' : decide (ns.length ≤ 80) = false := by rw [← e6]; exact hb
              exact (k2 _ (if_neg (by rw [hb']; decide))).imp fun H' o => (o1.trans o2).trans o
      · rw [if_neg e3] at k1 k2
        exact ln_bad (ev_self rfl) L (by decide) (ea_cons ev_int (ea_cons ev_int ea_nil)) ⟨_, _, rfl, by rw [e1]; dsimp only; rw [e2]; dsimp only; rw [if_neg e3], hp, hw⟩ (k2 _ rfl)
end
end Fd
-- D11
namespace Fd
open PySem PySem.Spec PyProof.Rows L2
def LS : List (List Nat) := [tFill.cps.toList, tSight.cps.toList, tCrowd.cps.toList, tMatch.cps.toList, tPlan.cps.toList, tVine.cps.toList]
theorem lsD : LS.map (fun l => PyData.str (S l)) = [.str (Str.ofString "filling"), .str (Str.ofString "sight"), .str (Str.ofString "crowd"), .str (Str.ofString "match"), .str (Str.ofString "plan"), .str (Str.ofString "vine")] := by
  unfold LS
  simp only [List.map_cons, List.map_nil, S_tl]
  rfl
theorem S_is {w : List Nat} {t : Str} : S w = t ↔ w = t.cps.toList := ⟨fun h => (by rw [← h]), fun h => (by rw [h, S_tl])⟩
theorem mem_LS {w : List Nat} : w ∈ LS ↔ S w = tFill ∨ S w = tSight ∨ S w = tCrowd ∨ S w = tMatch ∨ S w = tPlan ∨ S w = tVine := by
  unfold LS
  simp only [List.mem_cons, List.not_mem_nil, or_false, S_is]
/-- what is worth an outcome of a line -/
def EvLn (K : PySem.W.Frag) (mg : Str → Option Value) (a q : Addr) (ws : List (List Nat)) (E : XK) (te : TE) (σ : L2.St) (H : Hp) (o : LnOut) : Prop := ∀ Q : VK, (∀ r p', o = .ok r p' → ∀ v H', Others a H H' → LineAt mg H' a q p' ws → Rp K H' r v → Q v H') →
  (∀ j, o = .bad j → OutX K mg (Others a H) "WrongLine" (wl 0 j) E) → te σ H Q
section
variable {K : PySem.W.Frag} {mg : Str → Option Value} {H0 H H' : Hp} {a q : Addr} {p p' : Nat} {ws : List (List Nat)} {ds : List PyData} {σ : L2.St} {D : Ends} {f : Nat → List (List Nat) → List PyData → LnOut → Prop} {W : WX} {r : PyData} {t : TA} {ta te tb : TE} {Q : VK} {j : Int} {E : XK} {o : LnOut} {c : TT} {wd : List Nat}
theorem evln_call (hs : EvSelf mg a q p ws ta σ H) (L : LineAt mg H a q p ws) (ht : EvA (LW mg a q p ws) K t σ H ds) (hf : f p ws ds o) : EvLn K mg a q ws E (tCallS (SpLn K mg f) (WE (fun cls d _ H => E cls d H)) (tCons ta t)) σ H o := fun Q k kE => by
  cases o with
  | ok r p' => exact lc_ok hs L ht hf (k r p' rfl)
  | bad j => exact lc_bad hs L ht hf (kE j rfl)
theorem evln_pair {i : Nat} {v : V} (e : σ[i]? = some (some v)) (L : LineAt mg H a q p ws) (hr : Rp K H (.str (S wd)) v) (h : EvLn K mg a q ws E te σ H o) : EvLn K mg a q ws E (tTup (tCons (tVar i) (tCons te tNil))) σ H (withW wd o) := fun Q k kE => by
  refine ⟨v, e, h _ (fun r p' e v' H1 o1 L1 r1 => ?_) fun j e => kE j (by rw [e]; rfl)⟩
  refine ⟨(by decide : 2 ≤ sizeLine), fun b hb => ?_⟩
  have s : Same H1 (upd H1 b (.tup [v, v'])) := fun c u e => by
    rw [upd_ne (ne_of_none e hb)]
    exact e
  have kT : KeepT H1 (upd H1 b (.tup [v, v'])) := (Wx.same (W := W0) trivial s).keepT
  refine k _ p' (by rw [e]; rfl) _ _ (o1.trans (Others.same s)) (L1.same s) (rp_tup.mpr ⟨b, _, rfl, SqT.of upd_same, rps_cons.mpr ⟨v, [v'], rfl, Rp.mono kT _ _ (Rp.mono (L.keepT o1) _ _ hr), Rps.one (Rp.mono kT _ _ r1)⟩⟩)
theorem evln_if {b : Bool} (L : LineAt mg H a q p ws) (hc : EvT (LW mg a q p ws) c σ H b) (h1 : b = true → ∀ H', Others a H H' → LineAt mg H' a q p ws → EvLn K mg a q ws E ta σ H' o) (h2 : b = false → ∀ H', Others a H H' → LineAt mg H' a q p ws → EvLn K mg a q ws E tb σ H' o) : EvLn K mg a q ws E (tIf c ta tb) σ H o := fun Q k kE =>
  hc.run (W := LW mg a q p ws) L fun H2 x2 => by
    have x := lw_others x2
    cases b with
    | true => exact h1 rfl H2 x x2.2.1 Q (fun r p' e v H' o' => k r p' e v H' (x.trans o')) fun j e => (kE j e).imp fun H' o' => x.trans o'
    | false => exact h2 rfl H2 x x2.2.1 Q (fun r p' e v H' o' => k r p' e v H' (x.trans o')) fun j e => (kE j e).imp fun H' o' => x.trans o'
theorem ret_evln (k1 : ∀ r p', o = .ok r p' → ∀ v H', Others a H0 H' → LineAt mg H' a q p' ws → Rp K H' r v → Q v H') (k2 : ∀ j, o = .bad j → OutX K mg (Others a H0) "WrongLine" (wl 0 j) E) (x0 : Others a H0 H) (h : EvLn K mg a q ws E te σ H o) (hD : D.rt = Q := by rfl) : tRet te D σ H :=
  h _ (fun r p' e v H' o' L' hr => by
    rw [hD]
    exact k1 r p' e v H' (x0.trans o') L' hr) fun j e => (k2 j e).imp fun H' o' => x0.trans o'
theorem one_any {ls : List (List Nat)} (hs : EvSelf mg a q p ws ta σ H) (L : LineAt mg H a q p ws) (h : EvL (LW mg a q p ws) K te σ H (ls.map fun l => .str (S l))) (hw : ws[p]? = some wd) (k : wd ∈ ls → ∀ v H', Others a H H' → LineAt mg H' a q (p + 1) ws → Rp K H' (.str (S wd)) v → Q v H')
    (kE : wd ∉ ls → OutX K mg (Others a H) "WrongLine" (wl 0 (p : Nat)) (fun c d H' => W c d σ H')) : tMT mg "take_one" (spOne K mg) W ta (tCons te tNil) σ H Q := hs H (Wx.refl (W := LW mg a q p ws) L) _ fun H2 x2 => by
  obtain ⟨C, dx, h0, h1, h2⟩ := x2.2.1
  refine ⟨C, a, dx, _, h0, rfl, h1, line_no (by decide), h H2 x2 _ fun v H3 x3 ⟨b, xs, e, hb, hn, hr⟩ => ?_⟩
  have ex : xs = wordsV ls := by
    have e2 : ls.map (fun l => PyData.str (S l)) = (ls.map S).map .str := by rw [List.map_map]; rfl
    rw [e2] at hr
    rw [hr.of_strs, List.map_map]
    rfl
  rw [ex] at hb
  have o3 := lw_others (x2.trans x3)
  exact ⟨a, q, p, ws, b, ls, wd, by rw [e], x3.2.1, hb, fun z => hn (.inl z), fun z => hn (.inr z), hw, fun hm v H' o L' r => k hm v H' (o3.trans o) L' r, fun hm => (kE hm).imp fun H' o => o3.trans o⟩
end
section
variable {P : Program} {w : World} {K : PySem.W.Frag} {mg : Str → Option Value} {base : Heap}
theorem cd_paper_in (Z : Tz K mg) : Cd P w K mg base (L2.CX P w) 8 "paper_in" (SpLn K mg (fPaper)) := by
  have T : Tx K mg := Z.toTx
  refine cd_ofX (k := 7) T.d_paper_in sc_paper_in (fun _ _ _ _ _ _ us hl => match us, hl with | [_], _ => rfl) (SpLn.len fun p ws ds r h => by obtain ⟨e, _⟩ := h; rw [e]; rfl) ?_
  intro fa cdv A outer s H0 vs Q E hr ⟨a, q, p0, ws, ds, us, o, e0, L, hds, hf, k1, k2⟩
  subst e0
  obtain ⟨e1, e2, ep, hok, hne⟩ := hf
  subst e1 e2
  have e := rps_nil.mp hds
  subst e
  obtain ⟨ach, kch, hch⟩ := T.k_CHAINS
  refine ⟨_, (pss_cons (ps_set (i := 1) sc_paper_in.nd rfl (Or.inl rfl) (pe_mT (ln_take_one Z) Z.line hr (by decide) (takes_of rfl rfl rfl rfl) (pv 0) (pa_cons (pe_lst (StX.pa_star (pe_k kch) (pa_cons pe_str (pa_cons pe_str (pa_cons pe_str (pa_cons pe_str pa_nil)))))) pa_nil)))
    (pss_cons (ps_if (pt_cmpR (kIn K) (pv 1) (pe_k kch) (by first | exact nomark _ | rfl))
      (pss_one (ps_ret (pe_tup (pa_cons (pv 1) (pa_cons (pe_dX (cd_rows_in Z) hr (by decide) (takes_of rfl rfl rfl rfl) (pa_cons (pv 0) (pa_cons (pe_k T.k_GREATEST_FIELD) pa_nil))) pa_nil))))) pss_nil)
    (pss_cons (ps_if (pt_cmpR op_eq (pv 1) pe_str (nomark _))
      (pss_one (ps_ret (pe_dX (cd_crowd_in_line Z) hr (by decide) (takes_of rfl rfl rfl rfl) (pa_cons (pv 0) pa_nil)))) pss_nil)
    (pss_cons (ps_if (pt_cmpR op_eq (pv 1) pe_str (nomark _))
      (pss_one (ps_ret (pe_tup (pa_cons (pv 1) (pa_cons (pe_dX (cd_match_in Z) hr (by decide) (takes_of rfl rfl rfl rfl) (pa_cons (pv 0) pa_nil)) pa_nil))))) pss_nil)
    (pss_one (ps_ret (pe_ifExp (pt_cmpR op_eq (pv 1) pe_str (nomark _)) (pe_tup (pa_cons (pv 1) (pa_cons (pe_dX (cd_sets_in Z) hr (by decide) (takes_of rfl rfl rfl rfl) (pa_cons (pv 0) pa_nil)) pa_nil))) (pe_tup (pa_cons (pv 1) (pa_cons (pe_dX (cd_indices_in Z) hr (by decide) (takes_of rfl rfl rfl rfl) (pa_cons (pv 0) pa_nil)) pa_nil)))))))))), ?_⟩
  subst ep
  cases ws with
  | nil => exact (hne rfl).elim
  | cons wd r =>
    have hpl : 1 ≤ (wd :: r).length := by simp
    have okr : okWs 1 (wd :: r) := ⟨hpl, hok.2⟩
    have hd1 : (wd :: r).drop 1 = r := rfl
    refine one_any (ls := LS) (ev_self rfl) L (lsD ▸ (el_lst (ea_star (es_of_t (ev_c hch)) (ea_cons ev_str (ea_cons ev_str (ea_cons ev_str (ea_cons ev_str ea_nil))))))) rfl (fun hm v1 H1 o1 L1 r1 => ?_) fun hm => ?_
    · unfold readLine at k1 k2
      dsimp only at k1 k2
      have hinC : ∀ {H}, Rp K H (.str (S wd)) v1 → EvT (LW mg a q 1 (wd :: r)) _ [some (.ref a), some v1] H (decide (S wd = tFill) || decide (S wd = tSight)) := fun r1 => et_is (et_of (ev_in (neg := false) (ta := tVar 1) (tb := tC (.ref ach)) (ev_var rfl r1) (es_of_t (ev_c hch)) rfl (fun e he => by
        rcases List.mem_cons.mp he with z | he
        · subst z; rfl
        · rw [List.mem_singleton.mp he]; rfl))) (in2 (S wd) _ _)
      refine if_then (W := LW mg a q 1 (wd :: r)) L1 (hinC r1) (fun hb H2 x2 => ?_) fun hbC H2 x2 => ?_
      · rw [if_pos hb] at k1 k2
        exact ret_evln k1 k2 (o1.trans (lw_others x2)) (evln_pair rfl x2.2.1 (x2.rp r1) (evln_call (ev_self rfl) x2.2.1 (ea_cons ev_int ea_nil) ⟨97, rfl, by rw [hd1], okr⟩))
      · rw [if_neg (by rw [hbC]; decide)] at k1 k2
        rw [Bool.or_eq_false_iff, decide_eq_false_iff_not, decide_eq_false_iff_not] at hbC
        replace r1 := x2.rp r1
        replace o1 := o1.trans (lw_others x2)
        have L2 := x2.2.1
        refine if_then (W := LW mg a q 1 (wd :: r)) L2 (et_of (ev_eqS (ev_var rfl r1) ev_str)) (fun hb H3 x3 => ?_) fun hb H3 x3 => ?_
        · rw [if_pos (show S wd = tCrowd from of_decide_eq_true hb)] at k1 k2
          exact ret_evln k1 k2 (o1.trans (lw_others x3)) (evln_call (ev_self rfl) x3.2.1 ea_nil ⟨rfl, rfl, okr⟩)
        · have hnC : ¬ S wd = tCrowd := of_decide_eq_false hb
          rw [if_neg hnC] at k1 k2
          replace r1 := x3.rp r1
          replace o1 := o1.trans (lw_others x3)
          have L3 := x3.2.1
          refine if_then (W := LW mg a q 1 (wd :: r)) L3 (et_of (ev_eqS (ev_var rfl r1) ev_str)) (fun hb H4 x4 => ?_) fun hb H4 x4 => ?_
          · rw [if_pos (show S wd = tMatch from of_decide_eq_true hb)] at k1 k2
            exact ret_evln k1 k2 (o1.trans (lw_others x4)) (evln_pair rfl x4.2.1 (x4.rp r1) (evln_call (ev_self rfl) x4.2.1 ea_nil ⟨rfl, by rw [hd1], okr⟩))
          · have hnM : ¬ S wd = tMatch := of_decide_eq_false hb
            rw [if_neg hnM] at k1 k2
            replace r1 := x4.rp r1
            replace o1 := o1.trans (lw_others x4)
            have L4 := x4.2.1
            refine ret_evln k1 k2 o1 (evln_if L4 (et_of (ev_eqS (ev_var rfl r1) ev_str)) (fun hb H5 o5 L5 => ?_) fun hb H5 o5 L5 => ?_)
            · rw [if_pos (show S wd = tPlan from of_decide_eq_true hb)]
              exact evln_pair rfl L5 (Rp.mono (L4.keepT o5) _ _ r1) (evln_call (ev_self rfl) L5 ea_nil ⟨rfl, by rw [hd1], okr⟩)
            · have hnP : ¬ S wd = tPlan := of_decide_eq_false hb
              have hV : S wd = tVine := by
                rcases mem_LS.mp hm with z | z | z | z | z | z
                · exact (hbC.1 z).elim
                · exact (hbC.2 z).elim
                · exact (hnC z).elim
                · exact (hnM z).elim
                · exact (hnP z).elim
                · exact z
              rw [if_neg hnP, if_pos hV]
              exact evln_pair rfl L5 (Rp.mono (L4.keepT o5) _ _ r1) (evln_call (ev_self rfl) L5 ea_nil ⟨rfl, by rw [hd1], okr⟩)
    · refine k2 0 ?_
      have hn : ∀ t : Str, (t = tFill ∨ t = tSight ∨ t = tCrowd ∨ t = tMatch ∨ t = tPlan ∨ t = tVine) → ¬ S wd = t := fun t ht z => hm (mem_LS.mpr (by rw [z]; exact ht))
      unfold readLine
      dsimp only
      rw [decide_eq_false (hn tFill (by simp)), decide_eq_false (hn tSight (by simp)), if_neg (by decide), if_neg (hn tCrowd (by simp)), if_neg (hn tMatch (by simp)), if_neg (hn tPlan (by simp)), if_neg (hn tVine (by simp))]
end
end Fd
-- D12
namespace Fd
open PySem PySem.Spec PyProof.Rows L2
/-- Line.__init__ on a new instance -/
def spLInit (K : PySem.W.Frag) (mg : Str → Option Value) : Sp := fun vs H Q _ => ∃ (x C dx : Addr) (v1 v2 : V), vs = [.ref x, v1, v2] ∧ mg "Line" = some (.ref C) ∧ H x = some (.ins C dx []) ∧
  ∀ H', (∀ b, b ≠ x → H' b = H b) → H' x = some (.ins C dx [("at", v1), ("words", v2), ("place", .int 0)]) → Q .non H'
section
variable {P : Program} {w : World} {K : PySem.W.Frag} {mg : Str → Option Value} {base : Heap}
theorem ok_linit {fI : Addr} {fd : FuncData} (Z : Tz K mg) (F : Fun K "__init__" "Line.__init__" s_Line___init__ fI fd) : FnOk P w K mg base CX0 1 fI fd ["self", "at", "words"] (spLInit K mg) := by
  refine F.ok sc_Line___init__ (fun vs H Q E h => ?_) (fun cdv A outer s H vs Q E hr h => ⟨_, pss_cons (ps_fld (pv 0) (pv 1) rfl) (pss_cons (ps_fld (pv 0) (pv 2) rfl) (pss_one (ps_fld (pv 0) pe_int rfl))), ?_⟩)
  · obtain ⟨x, C, dx, v1, v2, e, _⟩ := h
    rw [e]
    rfl
  · obtain ⟨x, C, dx, v1, v2, e, hm, h1, k⟩ := h
    subst e
    obtain ⟨C', fI', fd', hm', cl, _, _, n1, n2, n3⟩ := Z.line.ex
    rw [hm] at hm'
    cases hm'
    refine ⟨v1, rfl, _, rfl, x, C, dx, [], rfl, h1, cl, n1, (by decide), ?_⟩
    refine ⟨v2, rfl, _, rfl, x, C, dx, _, rfl, upd_same, cl, n2, (show 1 < 1000 by decide), ?_⟩
    refine ⟨_, rfl, x, C, dx, _, rfl, upd_same, cl, n3, (show 2 < 1000 by decide), ?_⟩
    refine k _ (fun b hb => ?_) ?_
    · rw [upd_ne hb, upd_ne hb, upd_ne hb]
    · rw [upd_same]
      rfl
end
/-- Line(.., ..) -/
def tLine (K : PySem.W.Frag) (mg : Str → Option Value) (t : TA) : TE := fun σ H Q => ∃ C, mg "Line" = some (.ref C) ∧ tMake C (spLInit K mg) [] E0 t σ H Q
theorem pe_line {X : Cx} {j : Nat} {p pos : Pos} {e : Expr} {es : List Expr} {t : TA} (Z : Tz X.K X.mg) (hr : Room j X.A) (hj : 2 ≤ j) (ha : PA X (e :: es) t) (hg : Gl X "Line" := by rfl)
    (he : starEach (e :: es) X.env = (false, eval e X.env) :: starEach es X.env := by rfl) (hpl : (backTo pos (starEach es X.env)).any (·.1) = false := by rfl) : PE X (.Call (.Name "Line" p) (e :: es) [] pos) (tLine X.K X.mg t) := by
  refine ⟨fun pins s σ H Q I h => ?_⟩
  obtain ⟨C', hm', h⟩ := h
  obtain ⟨C, fI, fd, hm, cl, M, F, n1, n2, n3⟩ := Z.line.ex
  rw [hm] at hm'
  cases hm'
  exact (pe_make M (ok_linit Z F) (hr.mono hj) hg hm (F.binds fun _ _ _ _ _ _ us hl => match us, hl with | [_, _, _], _ => rfl) .nil pass0 ha (by decide) he hpl).run pins s σ H Q I h
/-- what is no text -/
def NotS (K : PySem.W.Frag) (H : Hp) (v : V) : Prop := (∃ d, Rp K H d v ∧ isStr d = false) ∨ ∃ p xs, v = .ref p ∧ H p = some (.lst xs)
def spLines (K : PySem.W.Frag) (mg : Str → Option Value) : Sp := fun vs H Q E => ∃ v, vs = [v] ∧
  ((∃ l : List Nat, v = .str (S l) ∧ l.length ≤ 1000000 ∧ (¬ 400000 < l.length → ∀ b H', Same H H' → H b = none → H' b = some (.lst (wordsV (TL.spl [10] 0 [] l))) → Q (.ref b) H') ∧ (400000 < l.length → OutX K mg (Same H) "TooMany" (.int l.length) E)) ∨
   (NotS K H v ∧ OutX K mg (Same H) "BadText" (.int (-1)) E))
section
variable {P : Program} {w : World} {K : PySem.W.Frag} {mg : Str → Option Value} {base : Heap}
theorem ev_notS {W : Wd} {σ : L2.St} {H : Hp} {v : V} {i : Nat} (e : σ[i]? = some (some v)) (h : NotS K H v) (h0 : W = W0) : Ev W K (tCB (rIsi K) (tCons (tVar i) (tCons (tC (.ty "str")) tNil))) σ H (.bool false) := by
  subst h0
  rcases h with ⟨d, r, hd⟩ | ⟨p, xs, ev, hp⟩
  · exact ev_is (ev_isStr (ev_var e r)) (congrArg PyData.bool hd)
  · subst ev
    exact fun H1 x Q k => ⟨_, e, .ref p, .ty "str", .type "list", .type "str", false, rfl, .ty "str", .base (.lst (x.2.2 _ _ hp fun z => z)), kit_ty (by decide +kernel), k _ H1 (Wx.refl trivial) (rp_bl.mpr rfl)⟩
theorem cd_lines_of (Z : Tz K mg) : Cd P w K mg base (L2.CX P w) 4 "lines_of" (spLines K mg) := by
  have T : Tx K mg := Z.toTx
  refine cd_ofX (k := 3) T.d_lines_of sc_lines_of (fun _ _ _ _ _ _ us hl => match us, hl with | [_], _ => rfl) (fun vs H Q E h => by obtain ⟨v, e, _⟩ := h; rw [e]; rfl) ?_
  intro f cdv A outer s H vs Q E hr ⟨v, e, h⟩
  subst e
  refine ⟨_, (pss_cons (ps_if (pt_not (pt_val (pe_callB (kIsi K) (by rfl) T.n_isinstance (by decide +kernel) (pa_cons (pv 0) (pa_cons (pe_bltn (v := .ty "str") (u := .type "str") (by rfl) T.n_str (by decide +kernel) rfl) pa_nil)))))
      (pss_one (ps_rz Z.x_BadText Z.b hr (by decide) (takes_of rfl rfl rfl rfl) (pa_cons (pe_un un_neg pe_int) pa_nil))) pss_nil)
    (pss_cons (ps_if (pt_cmpR op_gt (pe_callB (kLen K) (by rfl) T.n_len PySem.boot_len (pa_cons (pv 0) pa_nil)) (pe_k T.k_MOST_SIGNS) (nomark _))
      (pss_one (ps_rz Z.x_TooMany Z.b hr (by decide) (takes_of rfl rfl rfl rfl) (pa_cons (pe_callB (kLen K) (by rfl) T.n_len PySem.boot_len (pa_cons (pv 0) pa_nil)) pa_nil))) pss_nil)
    (pss_one (ps_ret (pe_split (pv 0) pe_str))))), ?_⟩
  rcases h with ⟨l, e, hl, k1, k2⟩ | ⟨hn, k2⟩
  · subst e
    have r0 : ∀ {H}, Rp K H (.str (S l)) (.str (S l)) := rp_str.mpr rfl
    have hl2 : (S l).length ≤ 10000000 := by rw [S_len]; omega
    have j0 : (Wn H).J H := fun _ _ h => h
    refine if_then (W := Wn H) j0 (et_not (et_B (ev_isStr (ev_var rfl r0)))) (fun hb => by cases hb) fun _ H1 x1 => ?_
    refine if_then (W := Wn H) x1.2.1 (et_of (ev_opB0 (ev_lenS (ev_var rfl r0) hl2) ev_int)) (fun hb H2 x2 => ?_) fun hb H2 x2 => ?_
    · have h4 : 400000 < l.length := by
        rw [decide_eq_true_eq, S_len] at hb
        omega
      exact st_rz (W := Wn H) Z.x_TooMany x2.2.1 (ev_is (ev_lenS (ev_var rfl r0) hl2) (by rw [S_len])) ((k2 h4).imp fun H' x => x.2.1)
    · have h4 : ¬ 400000 < l.length := by
        rw [decide_eq_false_iff_not, S_len] at hb
        omega
      refine retL (es := (TL.spl [10] 0 [] l).map fun w => .str (S w)) (fun b H' xs s hn hp r => ?_) (x1.trans x2) (el_words 10 (by decide) l_line (ev_var rfl r0) ev_str hl)
      have ex : xs = wordsV (TL.spl [10] 0 [] l) := by
        have e2 : (TL.spl [10] 0 [] l).map (fun l => PyData.str (S l)) = ((TL.spl [10] 0 [] l).map S).map .str := by rw [List.map_map]; rfl
        rw [e2] at r
        rw [r.of_strs, List.map_map]
        rfl
      rw [ex] at hp
      exact k1 h4 b H' s hn hp
  · refine if0 (et_not (et_B (ev_notS rfl hn rfl))) (fun _ H1 x1 => ?_) fun hb => by cases hb
    exact st_rz (W := W0) Z.x_BadText trivial (ev_neg ev_int) (k2.imp fun H' x b o q => (x1.trans x).2.2 b o q fun z => z)
/-- line_at(lines, 0) -/
def spLineAt (mg : Str → Option Value) : Sp := fun vs H Q E => ∃ (b : Addr) (l0 : List Nat) (rest : List (List Nat)), vs = [.ref b, .int 0] ∧ H b = some (.lst (wordsV (l0 :: rest))) ∧ l0.length ≤ 1000000 ∧
  ∀ a q H', Same H H' → H a = none → H q = none → LineAt mg H' a q 0 (TL.spl [32] 0 [] l0) → Q (.ref a) H'
theorem cd_line_at (Z : Tz K mg) : Cd P w K mg base (L2.CX P w) 5 "line_at" (spLineAt mg) := by
  have T : Tx K mg := Z.toTx
  refine cd_ofX (k := 4) T.d_line_at sc_line_at (fun _ _ _ _ _ _ us hl => match us, hl with | [_, _], _ => rfl) (fun vs H Q E h => by obtain ⟨v, _, _, e, _⟩ := h; rw [e]; rfl) ?_
  intro f cdv A outer s H vs Q E hr ⟨b, l0, rest, e, hb, hl, k⟩
  subst e
  refine ⟨_, (pss_cons (ps_if (pt_cmpR op_ge (pv 1) (pe_callB (kLen K) (by rfl) T.n_len PySem.boot_len (pa_cons (pv 0) pa_nil)) (nomark _))
      (pss_one (ps_expr (pe_dX (cd_fail Z) hr (by decide) (takes_of rfl rfl rfl rfl) (pa_cons (pe_callB (kLen K) (by rfl) T.n_len PySem.boot_len (pa_cons (pv 0) pa_nil)) (pa_cons pe_int pa_nil))))) pss_nil)
    (pss_one (ps_ret (pe_line Z hr (by decide) (pa_cons (pv 1) (pa_cons (pe_d (cd_words_of T) hr (by decide) (pa_cons (pe_ix (ixL K) (pv 0) (pv 1) (fun _ _ => rfl)) pa_nil)) pa_nil)))))), ?_⟩
  have hr : ∀ {H1}, Wx W0 H H1 → EvP (tVar 0) [some (.ref b), some (.int 0)] H1 (VP.r W0 K ((l0 :: rest).map fun l => .str (S l))) := fun x => evp_var rfl ⟨b, _, rfl, ⟨SqL.of (x.2.2 _ _ hb fun z => z), fun z => z⟩, rps_words K _ _⟩
  refine if0 (et_of (ev_opB0 (ev_var rfl (rp_int.mpr rfl)) (ev_len (es_of_r (hr x0))))) (fun hb2 => ?_) fun _ H1 x1 => ?_
  · have hb3 : ((((l0 :: rest).map fun l => PyData.str (S l)).length : Nat) : Int) ≤ 0 := of_decide_eq_true hb2
    rw [List.length_map, List.length_cons] at hb3
    omega
  · obtain ⟨C, fI, fd, hm, _⟩ := Z.line.ex
    refine ⟨C, hm, .int 0, rfl, ?_⟩
    refine (ev_ixL (i := 0) (j := 0) (es_of_r (hr x1)) (ev_var rfl (rp_int.mpr rfl)) (ixN_nat (by simp)) rfl).run (W := W0) trivial fun v2 H2 x2 r2 => ?_
    refine ⟨[.str (S l0)], _, Rps.one r2, ⟨l0, rfl, rfl, hl⟩, fun q H3 xs s3 hn hq hr3 => ?_⟩
    have ex : xs = wordsV (TL.spl [32] 0 [] l0) := by
      have e2 : (TL.spl [32] 0 [] l0).map (fun l => PyData.str (S l)) = ((TL.spl [32] 0 [] l0).map S).map .str := by rw [List.map_map]; rfl
      rw [e2] at hr3
      rw [hr3.of_strs, List.map_map]
      rfl
    rw [ex] at hq
    have s12 : Same H H2 := fun c o e => (x1.trans x2).2.2 c o e fun z => z
    intro x dx hx hdx hne
    refine ⟨x, C, dx, .int 0, .ref q, rfl, hm, upd_same, fun H' hk hx' => ⟨rfl, ?_⟩⟩
    have old : ∀ c o, H3 c = some o → H' c = some o := fun c o e => by
      have n1 : c ≠ x := fun z => by rw [z, hx] at e; cases e
      have n2 : c ≠ dx := fun z => by rw [z, hdx] at e; cases e
      rw [hk c n1, upd_ne n1, upd_ne n2]
      exact e
    have none_of : ∀ {c}, H3 c = none → H c = none := fun {c} h => by
      cases e : H c with
      | none => rfl
      | some o =>
        rw [s3 c o (s12 c o e)] at h
        cases h
    have none2 : H q = none := by
      cases e : H q with
      | none => rfl
      | some o =>
        rw [s12 q o e] at hn
        cases hn
    exact k x q H' (fun c o e => old c o (s3 c o (s12 c o e))) (none_of hx) none2 ⟨C, dx, hm, hx', old q _ hq⟩
/-- want_end(lines, n) -/
def spWantEnd (K : PySem.W.Frag) (mg : Str → Option Value) : Sp := fun vs H Q E => ∃ (b : Addr) (ls : List (List Nat)) (n : Int), vs = [.ref b, .int n] ∧ H b = some (.lst (wordsV ls)) ∧
  (n < ls.length → OutX K mg (Same H) "WrongLine" (wl n 0) E) ∧ (¬ n < ls.length → ∀ H', Same H H' → Q .non H')
theorem cd_want_end (Z : Tz K mg) : Cd P w K mg base (L2.CX P w) 5 "want_end" (spWantEnd K mg) := by
  have T : Tx K mg := Z.toTx
  refine cd_ofX (k := 4) T.d_want_end sc_want_end (fun _ _ _ _ _ _ us hl => match us, hl with | [_, _], _ => rfl) (fun vs H Q E h => by obtain ⟨v, _, _, e, _⟩ := h; rw [e]; rfl) ?_
  intro f cdv A outer s H vs Q E hr ⟨b, ls, n, e, hb, k1, k2⟩
  subst e
  refine ⟨_, (pss_one (ps_if (pt_cmpR op_gt (pe_callB (kLen K) (by rfl) T.n_len PySem.boot_len (pa_cons (pv 0) pa_nil)) (pv 1) (nomark _))
      (pss_one (ps_expr (pe_dX (cd_fail Z) hr (by decide) (takes_of rfl rfl rfl rfl) (pa_cons (pv 1) (pa_cons pe_int pa_nil))))) pss_nil)), ?_⟩
  have hr : ∀ {H1}, Wx W0 H H1 → EvP (tVar 0) [some (.ref b), some (.int n)] H1 (VP.r W0 K (ls.map fun l => .str (S l))) := fun x => evp_var rfl ⟨b, _, rfl, ⟨SqL.of (x.2.2 _ _ hb fun z => z), fun z => z⟩, rps_words K _ _⟩
  refine st_if (W := W0) trivial (et_of (ev_opB0 (ev_len (es_of_r (hr x0))) (ev_var rfl (rp_int.mpr rfl)))) (fun hb2 H1 x1 => ?_) fun hb2 H1 x1 => ?_
  · rw [List.length_map] at hb2
    exact out_drop (W := W0) trivial (out_callR (ea_cons (ev_var rfl (rp_int.mpr rfl)) (ea_cons ev_int ea_nil)) ⟨_, _, rfl, rfl⟩ ((k1 (of_decide_eq_true hb2)).imp fun H' x b o q => (x1.trans x).2.2 b o q fun z => z))
  · rw [List.length_map] at hb2
    exact k2 (of_decide_eq_false hb2) H1 fun b o q => x1.2.2 b o q fun z => z
/-- a text as a paper, or what is wrong -/
def readP (l : List Nat) : PyData ⊕ (Str × PyData) :=
  if 400000 < l.length then .inr ("TooMany", .int l.length) else
  match TL.spl [10] 0 [] l with
  | [] => .inr ("WrongLine", wl 0 0)
  | l0 :: rest => match readLine (TL.spl [32] 0 [] l0) with
    | .bad j => .inr ("WrongLine", wl 0 j)
    | .ok r p => if p = (TL.spl [32] 0 [] l0).length then (if (1 : Int) < ((l0 :: rest).length : Nat) then .inr ("WrongLine", wl 1 0) else .inl r) else .inr ("WrongLine", wl 0 (p : Nat))
def ReadOut (K : PySem.W.Frag) (mg : Str → Option Value) (H : Hp) (v : V) (Q : VK) (E : XK) : Prop := ∃ out : PyData ⊕ (Str × PyData), ((∃ l : List Nat, v = .str (S l) ∧ l.length ≤ 1000000 ∧ out = readP l) ∨ (NotS K H v ∧ out = .inr ("BadText", .int (-1)))) ∧
  (∀ r, out = .inl r → ∀ v' H', Same H H' → Rp K H' r v' → Q v' H') ∧ ∀ x w, out = .inr (x, w) → OutX K mg (Same H) x w E
/-- read_only(text, paper_in) -/
def spOnly (K : PySem.W.Frag) (mg : Str → Option Value) : Sp := fun vs H Q E => ∃ v f, vs = [v, .ref f] ∧ mg "paper_in" = some (.ref f) ∧ ReadOut K mg H v Q E
def spRead (K : PySem.W.Frag) (mg : Str → Option Value) : Sp := fun vs H Q E => ∃ v, vs = [v] ∧ ReadOut K mg H v Q E
theorem cd_read_only (Z : Tz K mg) : Cd P w K mg base (L2.CX P w) 9 "read_only" (spOnly K mg) := by
  have T : Tx K mg := Z.toTx
  refine cd_ofX (k := 9 - 1) T.d_read_only sc_read_only (fun _ _ _ _ _ _ us hl => match us, hl with | [_, _], _ => rfl) (fun vs H Q E h => by obtain ⟨v, _, e, _⟩ := h; rw [e]; rfl) ?_
  intro f cdv A outer s H vs Q E hr ⟨v, fp, e, hmp, out, hv, k1, k2⟩
  subst e
  obtain ⟨fp', fdp, psp, Fp, hmp', kpp, bp⟩ := cd_paper_in (P := P) (w := w) (base := base) Z
  rw [hmp] at hmp'
  cases hmp'
  refine ⟨_, (pss_cons (ps_set (i := 2) sc_read_only.nd rfl (Or.inl rfl) (pe_dX (cd_lines_of Z) hr (by decide) (takes_of rfl rfl rfl rfl) (pa_cons (pv 0) pa_nil)))
    (pss_cons (ps_set (i := 3) sc_read_only.nd rfl (Or.inl rfl) (pe_dX (cd_line_at Z) hr (by decide) (takes_of rfl rfl rfl rfl) (pa_cons (pv 2) (pa_cons pe_int pa_nil))))
    (pss_cons (ps_set (i := 4) sc_read_only.nd rfl (Or.inl rfl) (pe_callL (i := 1) Fp (hr.mono (by decide)) rfl (by first | exact Or.inl rfl | exact Or.inr (Or.inl rfl) | exact Or.inr (Or.inr rfl)) kpp bp .nil (passes_call (takes_of rfl rfl rfl rfl) fun _ _ _ _ h => h) (pa_cons (pv 3) pa_nil)))
    (pss_cons (ps_expr (pe_mT0 (ln_want_over Z) Z.line hr (by decide) (takes_of rfl rfl rfl rfl) (pv 3)))
    (pss_cons (ps_expr (pe_dX (cd_want_end Z) hr (by decide) (takes_of rfl rfl rfl rfl) (pa_cons (pv 2) (pa_cons pe_int pa_nil))))
    (pss_one (ps_ret (pv 4)))))))), ?_⟩
  refine ⟨v, rfl, v, rfl, ?_⟩
  rcases hv with ⟨l, e, hl, eo⟩ | ⟨hn, eo⟩
  · refine .inl ⟨l, e, hl, fun h4 b H1 s1 hn hb => ?_, fun h4 => k2 _ _ (by rw [eo]; exact if_pos h4)⟩
    unfold readP at eo
    rw [if_neg h4] at eo
    have hsl := spl_len1 10 l []
    have hsm := spl_mem_len 10 l []
    cases hls : TL.spl [10] 0 [] l with
    | nil => exact (spl_ne 10 l [] hls).elim
    | cons l0 rest =>
      rw [hls] at hb eo hsl hsm
      dsimp only at eo
      have hl0 : l0.length ≤ 1000000 := by
        have := hsm l0 (List.mem_cons_self ..)
        simp only [List.length_nil] at this
        omega
      refine ⟨.ref b, rfl, b, l0, rest, rfl, hb, hl0, fun a q H2 s2 ha hq L => ?_⟩
      generalize hws : TL.spl [32] 0 [] l0 = ws at L eo
      have okw : okWs 0 ws := by
        rw [← hws]
        refine ⟨Nat.zero_le _, fun x hx => ?_, ?_⟩
        · have := spl_mem_len 32 l0 [] x hx
          simp only [List.length_nil] at this
          omega
        · have := spl_len1 32 l0 []
          have : l0.length ≤ l.length := by
            have := hsm l0 (List.mem_cons_self ..)
            simp only [List.length_nil] at this
            omega
          omega
      have wne : ws ≠ [] := by rw [← hws]; exact spl_ne 32 l0 []
      have s02 : Same H H2 := fun c o e => s2 c o (s1 c o e)
      have toH : ∀ {H'}, Others a H2 H' → Same H H' := fun x c o e => x c o (fun z => by
        have := s1 c o e
        rw [z, ha] at this
        cases this) (s02 c o e)
      have nba : b ≠ a := fun z => by
        rw [z, ha] at hb
        cases hb
      have nbq : b ≠ q := fun z => by
        rw [z, hq] at hb
        cases hb
      refine ⟨rfl, .ref a, rfl, a, q, 0, ws, [], [], readLine ws, rfl, L, rps_nil.mpr rfl, ⟨rfl, rfl, rfl, okw, wne⟩, fun r p' er v4 H3 o3 L3 r4 => ?_, fun j ej => ?_⟩
      · rw [er] at eo
        dsimp only at eo
        have hb3 := o3 b _ nba (s2 _ _ hb)
        by_cases hp : p' = ws.length
        · rw [if_pos hp] at eo
          refine drop_then (W := LW mg a q p' ws) L3 (ev_ln (ev_self rfl) (by decide) ea_nil ⟨rfl, (if_pos hp).symm⟩) fun v5 H4 x4 _ => ?_
          have o4 := o3.trans (lw_others x4)
          have hb4 := lw_others x4 b _ nba hb3
          have r44 := x4.rp r4
          refine ⟨.ref b, rfl, b, l0 :: rest, 1, rfl, hb4, fun h1 => ?_, fun h1 H5 s5 => ?_⟩
          · rw [if_pos h1] at eo
            exact (k2 _ _ eo).imp fun H' s => toH (o4.trans (Others.same s))
          · rw [if_neg h1] at eo
            refine ⟨v4, rfl, k1 r eo v4 H5 (toH (o4.trans (Others.same s5))) (Rp.mono (Wx.same (W := W0) trivial s5).keepT _ _ r44)⟩
        · rw [if_neg hp] at eo
          exact ln_bad (ev_self rfl) L3 (by decide) ea_nil ⟨rfl, (if_neg hp).symm⟩ ((k2 _ _ eo).imp fun H' o => toH (o3.trans o))
      · rw [ej] at eo
        exact (k2 _ _ eo).imp fun H' o => toH o
  · exact .inr ⟨hn, k2 _ _ eo⟩
theorem cd_read_paper (Z : Tz K mg) : Cd P w K mg base (L2.CX P w) 10 "read_paper" (spRead K mg) := by
  have T : Tx K mg := Z.toTx
  refine cd_ofX (k := 10 - 1) T.d_read_paper sc_read_paper (fun _ _ _ _ _ _ us hl => match us, hl with | [_], _ => rfl) (fun vs H Q E h => by obtain ⟨v, e, _⟩ := h; rw [e]; rfl) ?_
  intro f cdv A outer s H vs Q E hr ⟨v, e, h⟩
  subst e
  obtain ⟨f_paper_in, fdp, hm_paper_in, Fp⟩ := T.d_paper_in
  refine ⟨_, (pss_one (ps_ret (pe_dX (cd_read_only Z) hr (by decide) (takes_of rfl rfl rfl rfl) (pa_cons (pv 0) (pa_cons (pe_k (v := .ref f_paper_in) ⟨_, hm_paper_in, rfl⟩) pa_nil))))), ?_⟩
  exact ⟨v, rfl, v, f_paper_in, rfl, hm_paper_in, h⟩
end
end Fd
-- L1
namespace Fd
open PySem PySem.Spec PyProof.Rows L2
theorem rise_iff : ∀ ns : List Int, rise ns = true ↔ ∀ k, k + 1 < ns.length → ns.getD k 0 < ns.getD (k + 1) 0
  | [] => ⟨fun _ k h => absurd h (Nat.not_lt_zero _), fun _ => rfl⟩
  | [a] => ⟨fun _ k h => absurd h (by simp), fun _ => rfl⟩
  | a :: b :: r => by
    have ih := rise_iff (b :: r)
    rw [rise_cons, Bool.and_eq_true, decide_eq_true_eq, ih]
    refine ⟨fun ⟨h1, h2⟩ k hk => ?_, fun h => ⟨h 0 (by simp), fun k hk => h (k + 1) (by simpa using hk)⟩⟩
    cases k with
    | zero => exact h1
    | succ k => exact h2 k (by simpa using hk)
/-- not above the one ahead, at a place -/
def leAt (ns : List Int) : PyData → Bool
  | .int k => decide (ns.getD k.toNat 0 ≤ ns.getD (k.toNat - 1) 0)
  | _ => false
theorem rise_ix (ns : List Int) : (rngD 1 (ns.length - 1)).all (fun d => !leAt ns d) = rise ns := by
  have h : (rngD 1 (ns.length - 1)).all (fun d => !leAt ns d) = true ↔ rise ns = true := by
    rw [rise_iff, List.all_eq_true]
    unfold rngD
    refine ⟨fun h k hk => ?_, fun h d hd => ?_⟩
    · have := h (.int (1 + (k : Nat))) (List.mem_map.mpr ⟨k, List.mem_range.mpr (by omega), rfl⟩)
      have e : ((1 : Int) + (k : Nat)).toNat = k + 1 := by omega
      simp only [leAt, e, Bool.not_eq_true', decide_eq_false_iff_not, Nat.add_sub_cancel] at this
      omega
    · obtain ⟨k, hk, e⟩ := List.mem_map.mp hd
      subst e
      have hk' := List.mem_range.mp hk
      have := h k (by omega)
      have e : ((1 : Int) + (k : Nat)).toNat = k + 1 := by omega
      simp only [leAt, e, Bool.not_eq_true', decide_eq_false_iff_not, Nat.add_sub_cancel]
      omega
  exact Bool.eq_iff_iff.mpr h
theorem fm_len (c : PyData → Bool) : ∀ ds : List PyData, decide ((ds.filterMap (fun d => if c d = true then some d else none)).length = 0) = ds.all (fun d => !c d)
  | [] => rfl
  | d :: ds => by
    rw [List.filterMap_cons, List.all_cons, ← fm_len c ds]
    cases c d <;> rfl
section
variable {W : Wd} {K : PySem.W.Frag} {σ : L2.St} {H : Hp} {te : TE} {tt : TT} {ds : List PyData}
/-- [d for d in .. if c(d)] against [] -/
theorem ev_no {neg : Bool} {wi : TI} {i : Nat} {vs : List Nat} {cB : PyData → Bool} (hs : Src W K wi σ H ds) (hl : ds.length ≤ 10000000) (ht : ∀ d ∈ ds, ∀ H1 x, Wx W H H1 → Rp K H1 d x → EvT W tt ((wipe σ vs).set i (some x)) H1 (cB d))
    (hi : ∀ x : V, ((wipe σ vs).set i (some x))[i]? = some (some x) := by intro _; rfl) (hw : ∀ x : V, wipe ((wipe σ vs).set i (some x)) vs = wipe σ vs := by intro _; rfl) :
    Ev W K (tOp (rEq0 K neg) (tLc wi (gName i) tt (tVar i) vs) (tLst tNil)) σ H (.bool (if neg then !ds.all (fun d => !cB d) else ds.all (fun d => !cB d))) := by
  rw [← fm_len]
  exact ev_eq0L (er_of_l (el_lc (fo := fun d => if cB d = true then some d else none) hs hl fun d hd => lcs_nameIf (ht d hd) (fun _ H1 x x1 r => ev_var (hi x) r) hw))
/-- t[k] of whole numbers, at a place in bounds -/
theorem ev_ints {ta tb : TE} {ns : List Int} {k : Int} (h : Ev W K ta σ H (.tuple (ns.map .int))) (hi : Ev W K tb σ H (.int k)) (h0 : 0 ≤ k) (hk : k.toNat < ns.length) : Ev W K (tOp (rIxT K) ta tb) σ H (.int (ns.getD k.toNat 0)) := by
  refine ev_ixT (j := k.toNat) h hi ?_ ?_
  · have := ixN_nat (n := (ns.map PyData.int).length) (j := k.toNat) (by rw [List.length_map]; exact hk)
    rw [show ((k.toNat : Nat) : Int) = k by omega] at this
    exact this
  · rw [List.getElem?_map, List.getElem?_eq_getElem hk]
    simp [hk]
theorem ev_intsL {ta tb : TE} {ns : List Int} {k : Int} (h : EvL W K ta σ H (ns.map .int)) (hi : Ev W K tb σ H (.int k)) (h0 : 0 ≤ k) (hk : k.toNat < ns.length) : Ev W K (tOp (rIx K) ta tb) σ H (.int (ns.getD k.toNat 0)) := by
  refine ev_ixL (j := k.toNat) (es_of_l h) hi ?_ ?_
  · have := ixN_nat (n := (ns.map PyData.int).length) (j := k.toNat) (by rw [List.length_map]; exact hk)
    rw [show ((k.toNat : Nat) : Int) = k by omega] at this
    exact this
  · rw [List.getElem?_map, List.getElem?_eq_getElem hk]
    simp [hk]
end
end Fd
-- LD1
namespace Fd
open PySem PySem.Spec PyProof.Rows L2
def isW : PyData → Bool
  | .int _ => true
  | _ => false
theorem isW_some {d : PyData} (h : isW d = true) : ∃ i, d = .int i := by
  cases d with
  | int i => exact ⟨i, rfl⟩
  | _ => cases h
theorem whole_not {d : PyData} {lo hi : Int} (h : isW d = false) : wholeB d lo hi = false := by
  cases d with
  | int i => cases h
  | _ => rfl
def pairB : PyData → Bool
  | .tuple [_, _] => true
  | _ => false
theorem pairB_some {d : PyData} (h : pairB d = true) : ∃ a b, d = .tuple [a, b] := by
  cases d with
  | tuple ds =>
    match ds with
    | [a, b] => exact ⟨a, b, rfl⟩
    | [] => cases h
    | [_] => cases h
    | _ :: _ :: _ :: _ => cases h
  | _ => cases h
theorem pair_len {ds : List PyData} (h : pairB (.tuple ds) = false) : decide ((ds.length : Int) = 2) = false := by
  match ds with
  | [a, b] => cases h
  | [] => rfl
  | [_] => rfl
  | _ :: _ :: _ :: l =>
    refine decide_eq_false fun z => ?_
    simp only [List.length_cons] at z
    omega
section
variable {P : Program} {w : World} {K : PySem.W.Frag} {mg : Str → Option Value} {base : Heap}
theorem cd__law_is_whole (T : Tx K mg) : Cd P w K mg base CX0 1 "_law_is_whole" (SpD K (fB1 isW)) := by
  refine cd_of (k := 0) T.d__law_is_whole sc__law_is_whole (fun _ _ _ _ _ _ us hl => match us, hl with | [_], _ => rfl) (SpD.len fun ds r h => by obtain ⟨_, e, _⟩ := h; rw [e]; rfl) ?_
  intro f cdv A outer s H vs Q E hr ⟨ds, r, hds, hf, kk⟩
  obtain ⟨d, e1, e2⟩ := hf
  subst e1 e2
  obtain ⟨v0, e, r0⟩ := rps1 hds
  subst e
  refine ⟨_, (pss_one (ps_ret (pe_and (pe_callB (kIsi K) (by rfl) T.n_isinstance (by decide +kernel) (pa_cons (pv 0) (pa_cons (pe_bltn (v := .ty "int") (u := .type "int") (by rfl) T.n_int (by decide +kernel) rfl) pa_nil))) (pe_one (pe_not (pe_callB (kIsi K) (by rfl) T.n_isinstance (by decide +kernel) (pa_cons (pv 0) (pa_cons (pe_bltn (v := .ty "bool") (u := .type "bool") (by rfl) T.n_bool (by decide +kernel) rfl) pa_nil)))))))), ?_⟩
  refine ret0 kk x0 ?_ rfl
  cases d with
  | int i => exact ev_and (ev_isInt (ev_var rfl r0)) fun _ => (ev_not (ev_isBool (ev_var rfl r0)))
  | bool b => exact ev_is (ev_and (ev_isInt (ev_var rfl r0)) fun _ => (ev_not (ev_isBool (ev_var rfl r0)))) rfl
  | none => exact ev_is (ev_and (b := false) (ev_isInt (ev_var rfl r0)) fun h => (Bool.false_ne_true h).elim) rfl
  | str b => exact ev_is (ev_and (b := false) (ev_isInt (ev_var rfl r0)) fun h => (Bool.false_ne_true h).elim) rfl
  | tuple b => exact ev_is (ev_and (b := false) (ev_isInt (ev_var rfl r0)) fun h => (Bool.false_ne_true h).elim) rfl
  | list b => exact (rp_list r0).elim
  | dict b => exact (rp_dict r0).elim
theorem cd__law_is_great (T : Tx K mg) : Cd P w K mg base CX0 2 "_law_is_great" (SpD K (fB1 greatB)) := by
  refine cd_of (k := 1) T.d__law_is_great sc__law_is_great (fun _ _ _ _ _ _ us hl => match us, hl with | [_], _ => rfl) (SpD.len fun ds r h => by obtain ⟨_, e, _⟩ := h; rw [e]; rfl) ?_
  intro f cdv A outer s H vs Q E hr ⟨ds, r, hds, hf, kk⟩
  obtain ⟨d, e1, e2⟩ := hf
  subst e1 e2
  obtain ⟨v0, e, r0⟩ := rps1 hds
  subst e
  refine ⟨_, (pss_one (ps_ret (pe_and (pe_d (cd__law_is_whole T) hr (by decide) (pa_cons (pv 0) pa_nil)) (pe_one (pe_chain op_le op_lt pe_int (pv 0) (pe_op op_pow pe_int pe_int)))))), ?_⟩
  cases hw : isW d with
  | false =>
    refine ret0 kk x0 (ev_and (b := false) (ev_call (ea_cons (ev_var rfl r0) ea_nil) ⟨_, rfl, rfl⟩) fun h => by rw [hw] at h; cases h) ?_
    unfold greatB
    rw [hw, whole_not hw]
    rfl
  | true =>
    obtain ⟨i, e⟩ := isW_some hw
    subst e
    refine ret0 kk x0 (ev_and (ev_call (ea_cons (ev_var rfl r0) ea_nil) ⟨_, rfl, rfl⟩) fun _ => (ev_chain ev_int (ev_var rfl r0) rv_B0 (fun _ => (ev_opI ev_int ev_int (by unfold CPow; decide +kernel))) rv_B0)) ?_
    show PyData.bool (true && (decide (0 ≤ i) && decide (i < 10 ^ 20))) = .bool (decide (0 ≤ i) && decide (i ≤ HI))
    rw [Bool.true_and]
    congr 2
    unfold HI
    exact decide_eq_decide.mpr (by omega)
theorem lotT {W : Wd} {σ : L2.St} {H : Hp} {te : TE} {i : Nat} {d : PyData} {lo hi : Int} {tl th : TE} (hc : Ev W K te σ H (.bool (isW d))) (h : ∀ i, d = .int i → Ev W K (tChain (rI0 fun i j => .bl (decide (i ≤ j))) (rI0 fun i j => .bl (decide (i ≤ j))) tl (tVar 4) th) σ H (.bool (decide (lo ≤ i) && decide (i ≤ hi)))) :
    EvT W (tOr (tNot (tB te)) (tNot (tTest (tChain (rI0 fun i j => .bl (decide (i ≤ j))) (rI0 fun i j => .bl (decide (i ≤ j))) tl (tVar 4) th)))) σ H (!wholeB d lo hi) := by
  cases hw : isW d with
  | false =>
    rw [hw] at hc
    refine et_is (et_or (b := false) (et_not (et_B hc)) fun h => by cases h) ?_
    rw [whole_not hw]
    rfl
  | true =>
    rw [hw] at hc
    obtain ⟨i, e⟩ := isW_some hw
    subst e
    exact et_is (et_or (et_not (et_B hc)) fun _ => et_not (et_of (h i rfl))) rfl
theorem cd__law_is_lot_of (T : Tx K mg) : Cd P w K mg base CX0 2 "_law_is_lot_of" (SpD K (fun ds r => ∃ (d : PyData) (m : Nat) (lo hi : Int), ds = [d, .int (m : Nat), .int lo, .int hi] ∧ r = .bool (lotB d m lo hi) ∧ m ≤ 1000000)) := by
  refine cd_of (k := 1) T.d__law_is_lot_of sc__law_is_lot_of (fun _ _ _ _ _ _ us hl => match us, hl with | [_, _, _, _], _ => rfl) (SpD.len fun ds r h => by obtain ⟨_, _, _, _, e, _⟩ := h; rw [e]; rfl) ?_
  intro f cdv A outer s H vs Q E hr ⟨ds, r, hds, hf, kk⟩
  obtain ⟨d, m, lo, hi, e1, e2, hm⟩ := hf
  subst e1 e2
  obtain ⟨v0, v1, v2, v3, e, r0, r1, r2, r3⟩ := rps4 hds
  subst e
  refine ⟨_, (pss_cons (ps_if (PW.pt (pw_or (pt_not (pt_val (pe_callB (kIsi K) (by rfl) T.n_isinstance (by decide +kernel) (pa_cons (pv 0) (pa_cons (pe_bltn (v := .ty "tuple") (u := .type "tuple") (by rfl) T.n_tuple (by decide +kernel) rfl) pa_nil))))) (pw_or1 (pt_not (pt_chain op_le op_le pe_int (pe_callB (kLen K) (by rfl) T.n_len PySem.boot_len (pa_cons (pv 0) pa_nil)) (pv 1))))))
      (pss_one (ps_ret pe_bl)) pss_nil)
    (pss_cons (ps_if (pt_cmpR (op_ne0 hr.units0) (pe_lc (own := [("one", 4)]) rfl sc__law_is_lot_of.nd (pi_tup (pv 0)) (blkOk_by (N := N__law_is_lot_of) (sc := defScope s__law_is_lot_of) (by decide +kernel)) (fun _ _ _ _ _ => (pg_name (i := 4) sc__law_is_lot_of.nd rfl (Or.inl rfl))) (fun _ _ _ _ _ => (pts_one (PW.pt (pw_or (pt_not (pt_val (pe_d (cd__law_is_whole T) hr (by decide) (pa_cons (pv 4) pa_nil)))) (pw_or1 (pt_not (pt_chain op_le op_le (pv 2) (pv 4) (pv 3)))))))) (fun _ _ _ _ _ => (pv 4))) (pe_lst pa_nil) (nomark _))
      (pss_one (ps_ret pe_bl)) pss_nil)
    (pss_one (ps_ret (pe_cmpR (op_eq0 hr.units0) (pe_lc (own := [("at", 5)]) rfl sc__law_is_lot_of.nd (pi_range2 (by rfl) T.n_range (pa_cons pe_int (pa_cons (pe_callB (kLen K) (by rfl) T.n_len PySem.boot_len (pa_cons (pv 0) pa_nil)) pa_nil))) (blkOk_by (N := N__law_is_lot_of) (sc := defScope s__law_is_lot_of) (by decide +kernel)) (fun _ _ _ _ _ => (pg_name (i := 5) sc__law_is_lot_of.nd rfl (Or.inl rfl))) (fun _ _ _ _ _ => (pts_one (pt_cmpR op_le (pe_ix (ixT K) (pv 0) (pv 5) (fun _ _ => rfl)) (pe_ix (ixT K) (pv 0) (pe_op op_sub (pv 5) pe_int) (fun _ _ => rfl)) (nomark _)))) (fun _ _ _ _ _ => (pv 5))) (pe_lst pa_nil) (nomark _)))))), ?_⟩
  rcases tupCases d with ⟨ds, e⟩ | hd
  · subst e
    refine if0 (et_or (et_not (et_B (ev_isTup (ev_var rfl r0)))) fun _ => (et_not (et_of (ev_chain ev_int (ev_len (es_of_t (ev_var rfl r0))) rv_B0 (fun _ => ev_var rfl r1) rv_B0)))) (fun hb H1 x1 => ?_) fun hb H1 x1 => ?_
    · rw [lenB _ m rfl] at hb
      refine ret0 kk x1 ev_bl ?_
      have hb' : (decide (1 ≤ ds.length) && decide (ds.length ≤ m)) = false := by
        simpa only [isTup, Bool.not_true, Bool.false_or, Bool.not_eq_true'] using hb
      rw [lotB_tup, hb', Bool.false_and]
    · rw [lenB _ m rfl] at hb
      have hb' : (decide (1 ≤ ds.length) && decide (ds.length ≤ m)) = true := by
        simpa only [isTup, Bool.not_true, Bool.false_or, Bool.not_eq_false'] using hb
      have hl : ds.length ≤ 10000000 := by
        simp only [Bool.and_eq_true, decide_eq_true_eq] at hb'
        omega
      replace r0 := x1.rp r0
      replace r2 := x1.rp r2
      replace r3 := x1.rp r3
      rw [lotB_tup, hb', Bool.true_and] at kk
      refine if0 (et_of (ev_no (neg := true) (src_tup (ev_var rfl r0)) hl (cB := fun d => !wholeB d lo hi) fun d _ H2 x x2 r => lotT (i := 4) (ev_call (ea_cons (ev_var rfl r) ea_nil) ⟨_, rfl, rfl⟩) fun i e => by
        subst e
        exact ev_chain (ev_var rfl (x2.rp r2)) (ev_var rfl r) rv_B0 (fun _ => ev_var rfl (x2.rp r3)) rv_B0)) (fun hb H2 x2 => ?_) fun hb H2 x2 => ?_
      · refine ret0 kk (x1.trans x2) ev_bl ?_
        have h2 : ds.all (fun d => wholeB d lo hi) = false := by
          simpa only [if_true, Bool.not_not, Bool.not_eq_true'] using hb
        rw [h2, Bool.false_and]
      · have h2 : ds.all (fun d => wholeB d lo hi) = true := by
          simpa only [if_true, Bool.not_not, Bool.not_eq_false'] using hb
        obtain ⟨ns, e⟩ := great_of h2
        subst e
        replace r0 := x2.rp r0
        rw [List.length_map] at hl
        refine ret0 kk (x1.trans x2) (ev_no (neg := false) (src_range2 ev_int (ev_len (es_of_t (ev_var rfl r0))) (by rw [List.length_map]; omega)) (by unfold rngD; rw [List.length_map, List.length_range, List.length_map]; omega) (cB := leAt ns) fun d hd H3 x x3 r => ?_) ?_
        · unfold rngD at hd
          obtain ⟨k, hk, e⟩ := List.mem_map.mp hd
          subst e
          rw [List.mem_range, List.length_map] at hk
          have hr := x3.rp r0
          have e2 : (((1 : Int) + (k : Nat)) - 1).toNat = ((1 : Int) + (k : Nat)).toNat - 1 := by omega
          show EvT W0 _ _ _ (decide (ns.getD ((1 : Int) + (k : Nat)).toNat 0 ≤ ns.getD (((1 : Int) + (k : Nat)).toNat - 1) 0))
          rw [← e2]
          exact et_of (ev_opB0 (ev_ints (ev_var rfl hr) (ev_var rfl r) (by omega) (by omega)) (ev_ints (ev_var rfl hr) (ev_opI0 (ev_var rfl r) ev_int) (by omega) (by omega)))
        · rw [h2, Bool.true_and, tup_ints, ← rise_ix]
          have e3 : ((((ns.map PyData.int).length : Nat) : Int) - 1).toNat = ns.length - 1 := by rw [List.length_map]; omega
          rw [if_neg (by decide), e3]
  · refine if0 (et_or (b := false) (et_not (et_B (ev_isTup (ev_var rfl r0)))) fun h => by rw [hd] at h; cases h) (fun hb H1 x1 => ?_) fun hb H1 x1 => ?_
    · refine ret0 kk x1 ev_bl ?_
      cases d with
      | tuple ds => cases hd
      | _ => rfl
    · rw [hd] at hb
      cases hb
end
end Fd
-- LD2
namespace Fd
open PySem PySem.Spec PyProof.Rows L2
theorem tie_pair {d : PyData} (h : pairB d = false) : tieB d = false := by
  cases d with
  | tuple ds =>
    match ds with
    | [a, b] => cases h
    | [] => rfl
    | [_] => rfl
    | _ :: _ :: _ :: _ => rfl
  | _ => rfl
theorem row_pair {d : PyData} {hi : Int} (h : pairB d = false) : rowB hi d = false := by
  cases d with
  | tuple ds =>
    match ds with
    | [a, b] => cases h
    | [] => rfl
    | [_] => rfl
    | _ :: _ :: _ :: _ => rfl
  | _ => rfl
/-- not a tuple, or not of two -/
theorem pairT {W : Wd} {K : PySem.W.Frag} {σ : L2.St} {H : Hp} {i : Nat} {v : V} {d : PyData} (e : σ[i]? = some (some v)) (r : Rp K H d v) :
    EvT W (tOr (tNot (tB (tCB (rIsi K) (tCons (tVar i) (tCons (tC (.ty "tuple")) tNil))))) (tTest (tOp rNe (tCB (fun xs H Q => ∃ x n, xs = [x] ∧ LenV K x H n ∧ Q (.int n) H) (tCons (tVar i) tNil)) (tC (.int 2))))) σ H (!pairB d) := by
  rcases tupCases d with ⟨ds, ed⟩ | hd
  · subst ed
    refine et_is (et_or (et_not (et_B (ev_isTup (ev_var e r)))) fun _ => et_of (ev_neI (ev_len (es_of_t (ev_var e r))) ev_int)) ?_
    show (false || !decide ((ds.length : Int) = 2)) = _
    rw [Bool.false_or]
    cases h : pairB (.tuple ds) with
    | false => rw [pair_len h]
    | true =>
      obtain ⟨a, b, e⟩ := pairB_some h
      cases e
      rfl
  · refine et_is (et_or (b := false) (et_not (et_B (ev_isTup (ev_var e r)))) fun h => by rw [hd] at h; cases h) ?_
    rw [hd]
    cases d with
    | tuple ds => cases hd
    | _ => rfl
section
variable {P : Program} {w : World} {K : PySem.W.Frag} {mg : Str → Option Value} {base : Heap}
theorem cd__law_are_ties (T : Tx K mg) : Cd P w K mg base CX0 3 "_law_are_ties" (SpD K (fB1 fun d => match d with | .tuple ds => tiesB ds | _ => false)) := by
  refine cd_of (k := 2) T.d__law_are_ties sc__law_are_ties (fun _ _ _ _ _ _ us hl => match us, hl with | [_], _ => rfl) (SpD.len fun ds r h => by obtain ⟨_, e, _⟩ := h; rw [e]; rfl) ?_
  intro f cdv A outer s H vs Q E hr ⟨ds, r, hds, hf, kk⟩
  obtain ⟨d, e1, e2⟩ := hf
  subst e1 e2
  obtain ⟨v0, e, r0⟩ := rps1 hds
  subst e
  refine ⟨_, (pss_cons (ps_if (PW.pt (pw_or (pt_not (pt_val (pe_callB (kIsi K) (by rfl) T.n_isinstance (by decide +kernel) (pa_cons (pv 0) (pa_cons (pe_bltn (v := .ty "tuple") (u := .type "tuple") (by rfl) T.n_tuple (by decide +kernel) rfl) pa_nil))))) (pw_or1 (pt_cmpR op_gt (pe_callB (kLen K) (by rfl) T.n_len PySem.boot_len (pa_cons (pv 0) pa_nil)) pe_int (nomark _)))))
      (pss_one (ps_ret pe_bl)) pss_nil)
    (pss_cons (ps_if (pt_cmpR (op_ne0 hr.units0) (pe_lc (own := [("one", 1)]) rfl sc__law_are_ties.nd (pi_tup (pv 0)) (blkOk_by (N := N__law_are_ties) (sc := defScope s__law_are_ties) (by decide +kernel)) (fun _ _ _ _ _ => (pg_name (i := 1) sc__law_are_ties.nd rfl (Or.inl rfl))) (fun _ _ _ _ _ => (pts_one (PW.pt (pw_or (pt_not (pt_val (pe_callB (kIsi K) (by rfl) T.n_isinstance (by decide +kernel) (pa_cons (pv 1) (pa_cons (pe_bltn (v := .ty "tuple") (u := .type "tuple") (by rfl) T.n_tuple (by decide +kernel) rfl) pa_nil))))) (pw_or1 (pt_cmpR op_ne (pe_callB (kLen K) (by rfl) T.n_len PySem.boot_len (pa_cons (pv 1) pa_nil)) pe_int (nomark _))))))) (fun _ _ _ _ _ => (pv 1))) (pe_lst pa_nil) (nomark _))
      (pss_one (ps_ret pe_bl)) pss_nil)
    (pss_cons (ps_if (pt_cmpR (op_ne0 hr.units0) (pe_lc (own := [("one", 1)]) rfl sc__law_are_ties.nd (pi_tup (pv 0)) (blkOk_by (N := N__law_are_ties) (sc := defScope s__law_are_ties) (by decide +kernel)) (fun _ _ _ _ _ => (pg_name (i := 1) sc__law_are_ties.nd rfl (Or.inl rfl))) (fun _ _ _ _ _ => (pts_one (PW.pt (pw_or (pt_not (pt_val (pe_d (cd__law_is_great T) hr (by decide) (pa_cons (pe_ix (ixT K) (pv 1) pe_int (fun _ _ => rfl)) pa_nil)))) (pw_or1 (pt_not (pt_val (pe_d (cd__law_is_great T) hr (by decide) (pa_cons (pe_ix (ixT K) (pv 1) pe_int (fun _ _ => rfl)) pa_nil))))))))) (fun _ _ _ _ _ => (pv 1))) (pe_lst pa_nil) (nomark _))
      (pss_one (ps_ret pe_bl)) pss_nil)
    (pss_one (ps_ret (pe_cmpR (op_eq0 hr.units0) (pe_lc (own := [("at", 2)]) rfl sc__law_are_ties.nd (pi_range2 (by rfl) T.n_range (pa_cons pe_int (pa_cons (pe_callB (kLen K) (by rfl) T.n_len PySem.boot_len (pa_cons (pv 0) pa_nil)) pa_nil))) (blkOk_by (N := N__law_are_ties) (sc := defScope s__law_are_ties) (by decide +kernel)) (fun _ _ _ _ _ => (pg_name (i := 2) sc__law_are_ties.nd rfl (Or.inl rfl))) (fun _ _ _ _ _ => (pts_one (pt_cmpR op_le (pe_ix (ixT K) (pe_ix (ixT K) (pv 0) (pv 2) (fun _ _ => rfl)) pe_int (fun _ _ => rfl)) (pe_ix (ixT K) (pe_ix (ixT K) (pv 0) (pe_op op_sub (pv 2) pe_int) (fun _ _ => rfl)) pe_int (fun _ _ => rfl)) (nomark _)))) (fun _ _ _ _ _ => (pv 2))) (pe_lst pa_nil) (nomark _))))))), ?_⟩
  rcases tupCases d with ⟨ds, e⟩ | hd
  rotate_left
  · refine if0 (et_or (b := false) (et_not (et_B (ev_isTup (ev_var rfl r0)))) fun h => by rw [hd] at h; cases h) (fun hb H1 x1 => ?_) fun hb H1 x1 => ?_
    · refine ret0 kk x1 ev_bl ?_
      cases d with
      | tuple ds => cases hd
      | _ => rfl
    · rw [hd] at hb
      cases hb
  subst e
  dsimp only at kk
  refine if0 (et_or (et_not (et_B (ev_isTup (ev_var rfl r0)))) fun _ => (et_of (ev_opB0 (ev_len (es_of_t (ev_var rfl r0))) ev_int))) (fun hb H1 x1 => ?_) fun hb H1 x1 => ?_
  · refine ret0 kk x1 ev_bl ?_
    have hb' : decide ((80 : Int) < (ds.length : Nat)) = true := hb
    unfold tiesB
    rw [hb', Bool.true_or]
    rfl
  have hb1 : decide ((80 : Int) < (ds.length : Nat)) = false := hb
  have hl : ds.length ≤ 10000000 := by
    have := of_decide_eq_false hb1
    omega
  unfold tiesB at kk
  rw [hb1, Bool.false_or] at kk
  replace r0 := x1.rp r0
  refine if0 (et_of (ev_no (neg := true) (src_tup (ev_var rfl r0)) hl (cB := fun d => !pairB d) fun d _ H2 x x2 r => pairT rfl r)) (fun hb H2 x2 => ?_) fun hb H2 x2 => ?_
  · have h2 : ds.all pairB = false := by
      simpa only [if_true, Bool.not_not, Bool.not_eq_true'] using hb
    refine ret0 kk (x1.trans x2) ev_bl ?_
    have h3 : ds.all tieB = false := by
      rw [Bool.eq_false_iff]
      intro z
      rw [List.all_eq_true] at z
      have : ds.all pairB = true := List.all_eq_true.mpr fun d hd => by
        cases hp : pairB d with
        | true => rfl
        | false =>
          have := z d hd
          rw [tie_pair hp] at this
          cases this
      rw [h2] at this
      cases this
    rw [h3]
    rfl
  have h2 : ds.all pairB = true := by
    simpa only [if_true, Bool.not_not, Bool.not_eq_false'] using hb
  replace r0 := x2.rp r0
  refine if0 (et_of (ev_no (neg := true) (src_tup (ev_var rfl r0)) hl (cB := fun d => !tieB d) fun d hd H2 x x2 r => ?_)) (fun hb H3 x3 => ?_) fun hb H3 x3 => ?_
  · obtain ⟨a, b, e⟩ := pairB_some (List.all_eq_true.mp h2 d hd)
    subst e
    refine et_is (et_or (et_not (et_B (ev_call (ea_cons (ev_at (j := 0) (ev_var rfl r) rfl) ea_nil) ⟨_, rfl, rfl⟩))) fun _ => et_not (et_B (ev_call (ea_cons (ev_at (j := 1) (ev_var rfl r) rfl) ea_nil) ⟨_, rfl, rfl⟩))) ?_
    show (!greatB a || !greatB b) = !(greatB a && greatB b)
    rw [Bool.not_and]
  · have h3 : ds.all tieB = false := by
      simpa only [if_true, Bool.not_not, Bool.not_eq_true'] using hb
    refine ret0 kk ((x1.trans x2).trans x3) ev_bl ?_
    rw [h3]
    rfl
  have h3 : ds.all tieB = true := by
    simpa only [if_true, Bool.not_not, Bool.not_eq_false'] using hb
  rw [h3] at kk
  replace r0 := x3.rp r0
  obtain ⟨ps, e⟩ := all_tie h3
  have hfst : ∀ k, k < ds.length → ∃ a b, ds[k]? = some (.tuple [.int a, .int b]) ∧ (ds.map fstI).getD k 0 = a := fun k hk => by
    subst e
    rw [List.length_map] at hk
    refine ⟨ps[k].1, ps[k].2, ?_, ?_⟩
    · rw [List.getElem?_map, List.getElem?_eq_getElem hk]
      rfl
    · rw [List.map_map]
      simp [hk]
      rfl
  refine ret0 kk ((x1.trans x2).trans x3) (ev_no (neg := false) (src_range2 ev_int (ev_len (es_of_t (ev_var rfl r0))) (by omega)) (by unfold rngD; rw [List.length_map, List.length_range]; omega) (cB := leAt (ds.map fstI)) fun d hd H3 x x3 r => ?_) ?_
  · unfold rngD at hd
    obtain ⟨k, hk, e2⟩ := List.mem_map.mp hd
    subst e2
    rw [List.mem_range] at hk
    have hr := x3.rp r0
    obtain ⟨a, b, g1, g2⟩ := hfst (k + 1) (by omega)
    obtain ⟨a', b', g1', g2'⟩ := hfst k (by omega)
    have e3 : ((1 : Int) + (k : Nat)).toNat = k + 1 := by omega
    show EvT W0 _ _ _ (decide ((ds.map fstI).getD ((1 : Int) + (k : Nat)).toNat 0 ≤ (ds.map fstI).getD (((1 : Int) + (k : Nat)).toNat - 1) 0))
    rw [e3, g2, Nat.add_sub_cancel, g2']
    refine et_of (ev_opB0 (ev_at (j := 0) (ev_ixT (j := k + 1) (ev_var rfl hr) (ev_var rfl r) ?_ g1) rfl) (ev_at (j := 0) (ev_ixT (j := k) (ev_var rfl hr) (ev_opI0 (ev_var rfl r) ev_int) ?_ g1') rfl))
    · have := ixN_nat (n := ds.length) (j := k + 1) (by omega)
      rw [show ((k + 1 : Nat) : Int) = 1 + (k : Nat) by omega] at this
      exact this
    · have := ixN_nat (n := ds.length) (j := k) (by omega)
      rw [show ((k : Nat) : Int) = 1 + (k : Nat) - 1 by omega] at this
      exact this
  · have e3 : (((ds.length : Nat) : Int) - 1).toNat = (ds.map fstI).length - 1 := by rw [List.length_map]; omega
    rw [if_neg (by decide), e3, rise_ix]
    rfl
end
end Fd
-- LD3
namespace Fd
open PySem PySem.Spec PyProof.Rows L2
/-- the last key behind i rows -/
def lastK (ds : List PyData) : Nat → Option (List Int)
  | 0 => none
  | i + 1 => some (keyOf (ds.getD i .none))
section
variable {P : Program} {w : World} {K : PySem.W.Frag} {mg : Str → Option Value} {base : Heap}
theorem cd__law_are_rows (T : Tx K mg) : Cd P w K mg base CX0 3 "_law_are_rows" (SpD K (fB1 rowsB)) := by
  refine cd_of (k := 2) T.d__law_are_rows sc__law_are_rows (fun _ _ _ _ _ _ us hl => match us, hl with | [_], _ => rfl) (SpD.len fun ds r h => by obtain ⟨_, e, _⟩ := h; rw [e]; rfl) ?_
  intro f cdv A outer s H vs Q E hr ⟨ds, r, hds, hf, kk⟩
  obtain ⟨d, e1, e2⟩ := hf
  subst e1 e2
  obtain ⟨v0, e, r0⟩ := rps1 hds
  subst e
  refine ⟨_, (pss_cons (ps_if (PW.pt (pw_or (pt_not (pt_val (pe_callB (kIsi K) (by rfl) T.n_isinstance (by decide +kernel) (pa_cons (pv 0) (pa_cons (pe_bltn (v := .ty "tuple") (u := .type "tuple") (by rfl) T.n_tuple (by decide +kernel) rfl) pa_nil))))) (pw_or1 (pt_cmpR op_gt (pe_callB (kLen K) (by rfl) T.n_len PySem.boot_len (pa_cons (pv 0) pa_nil)) pe_int (nomark _)))))
      (pss_one (ps_ret pe_bl)) pss_nil)
    (pss_cons (ps_for PassesOwn.never rfl (pi_range1 (by rfl) T.n_range (pa_cons (pe_callB (kLen K) (by rfl) T.n_len PySem.boot_len (pa_cons (pv 0) pa_nil)) pa_nil)) (pg_name (i := 1) sc__law_are_rows.nd rfl (Or.inl rfl))
      (pss_cons (ps_set (i := 2) sc__law_are_rows.nd rfl (Or.inl rfl) (pe_ix (ixT K) (pv 0) (pv 1) (fun _ _ => rfl)))
      (pss_cons (ps_if (PW.pt (pw_or (pt_not (pt_val (pe_callB (kIsi K) (by rfl) T.n_isinstance (by decide +kernel) (pa_cons (pv 2) (pa_cons (pe_bltn (v := .ty "tuple") (u := .type "tuple") (by rfl) T.n_tuple (by decide +kernel) rfl) pa_nil))))) (pw_or (pt_cmpR op_ne (pe_callB (kLen K) (by rfl) T.n_len PySem.boot_len (pa_cons (pv 2) pa_nil)) pe_int (nomark _)) (pw_or1 (pt_not (pt_val (pe_d (cd__law_is_lot_of T) hr (by decide) (pa_cons (pe_ix (ixT K) (pv 2) pe_int (fun _ _ => rfl)) (pa_cons pe_int (pa_cons pe_int (pa_cons pe_int pa_nil)))))))))))
        (pss_one (ps_ret pe_bl)) pss_nil)
      (pss_cons (ps_if (PW.pt (pw_or (pt_not (pt_val (pe_d (cd__law_is_whole T) hr (by decide) (pa_cons (pe_ix (ixT K) (pv 2) pe_int (fun _ _ => rfl)) pa_nil)))) (pw_or1 (pt_not (pt_chain op_le op_le pe_int (pe_ix (ixT K) (pv 2) pe_int (fun _ _ => rfl)) pe_int)))))
        (pss_one (ps_ret pe_bl)) pss_nil)
      (pss_one (ps_if (PW.pt (pw_and (pt_cmpR op_gt (pv 1) pe_int (nomark _)) (pw_and1 (PW.pt (pw_or (pt_cmpR op_ne (pe_callB (kLen K) (by rfl) T.n_len PySem.boot_len (pa_cons (pe_ix (ixT K) (pv 2) pe_int (fun _ _ => rfl)) pa_nil)) (pe_callB (kLen K) (by rfl) T.n_len PySem.boot_len (pa_cons (pe_ix (ixT K) (pe_ix (ixT K) (pv 0) pe_int (fun _ _ => rfl)) pe_int (fun _ _ => rfl)) pa_nil)) (nomark _)) (pw_or1 (pt_cmpR (op_leT hr.units0) (pe_ix (ixT K) (pv 2) pe_int (fun _ _ => rfl)) (pe_ix (ixT K) (pe_ix (ixT K) (pv 0) (pe_op op_sub (pv 1) pe_int) (fun _ _ => rfl)) pe_int (fun _ _ => rfl)) (nomark _))))))))
        (pss_one (ps_ret pe_bl)) pss_nil))))))
    (pss_one (ps_ret pe_bl)))), ?_⟩
  rcases tupCases d with ⟨ds, e⟩ | hd
  rotate_left
  · refine if0 (et_or (b := false) (et_not (et_B (ev_isTup (ev_var rfl r0)))) fun h => by rw [hd] at h; cases h) (fun hb H1 x1 => ?_) fun hb H1 x1 => ?_
    · refine ret0 kk x1 ev_bl ?_
      cases d with
      | tuple ds => cases hd
      | _ => rfl
    · rw [hd] at hb
      cases hb
  subst e
  refine if0 (et_or (et_not (et_B (ev_isTup (ev_var rfl r0)))) fun _ => (et_of (ev_opB0 (ev_len (es_of_t (ev_var rfl r0))) ev_int))) (fun hb H1 x1 => ?_) fun hb H1 x1 => ?_
  · refine ret0 kk x1 ev_bl ?_
    have hb' : decide ((3000 : Int) < (ds.length : Nat)) = true := hb
    have : ¬ ((ds.length : Int) ≤ 3000) := by
      have := of_decide_eq_true hb'
      omega
    show _ = PyData.bool (decide ((ds.length : Int) ≤ 3000) && _)
    rw [decide_eq_false this]
    rfl
  have hb1 : decide ((3000 : Int) < (ds.length : Nat)) = false := hb
  have hl3 : (ds.length : Int) ≤ 3000 := by
    have := of_decide_eq_false hb1
    omega
  have hkk : (PyData.bool (rowsB (.tuple ds))) = .bool (ds.all (rowB 96) && adjFrom none ds) := by
    show PyData.bool (decide ((ds.length : Int) ≤ 3000) && chainB 96 ds) = _
    rw [decide_eq_true hl3]
    rfl
  rw [hkk] at kk
  replace r0 := x1.rp r0
  refine for_then (W := W0) trivial (src_range1 (ev_len (es_of_t (ev_var rfl r0))) (by omega) (by omega)) (fun i σ H => ∃ (o1 o2 : Option V), σ = [some v0, o1, o2] ∧ (∀ k, k < i → ∃ (ns : List Int) (n : Int), ds[k]? = some (.tuple [.tuple (ns.map .int), .int n]) ∧ ns.length = (keyOf (ds.getD 0 .none)).length) ∧ ((ds.drop i).all (rowB 96) && adjFrom (lastK ds i) (ds.drop i)) = (ds.all (rowB 96) && adjFrom none ds))
    (fun H2 x2 => ⟨none, none, rfl, (fun k hk => absurd hk (Nat.not_lt_zero _)), rfl⟩) (fun i d σ1 H2 H3 x N hi x2 hI x3 hx hN => ?_) fun σ1 H2 x2 ⟨o1, o2, e1, _, e2⟩ => ?_
  · obtain ⟨o1, o2, e1, hprev, e2⟩ := hI
    subst e1
    have hil : i < ds.length := by
      have := (List.getElem?_eq_some_iff.mp hi).1
      unfold rngD at this
      rw [List.length_map, List.length_range] at this
      omega
    have ed : d = .int (i : Nat) := by
      unfold rngD at hi
      rw [List.getElem?_map, List.getElem?_range (by omega)] at hi
      cases hi
      show PyData.int (0 + (i : Nat)) = .int (i : Nat)
      rw [Int.zero_add]
    subst ed
    have hc : ds[i]? = some ds[i] := List.getElem?_eq_getElem hil
    have dr : ds.drop i = ds[i] :: ds.drop (i + 1) := List.drop_eq_getElem_cons hil
    generalize ds[i] = c at hc dr
    rw [dr, List.all_cons] at e2
    have x13 := x2.trans x3
    replace r0 := x13.rp r0
    refine set0 K (ev_ixT (j := i) (ev_var rfl r0) (ev_var rfl hx) (ixN_nat hil) hc) fun vc H4 x4 rc => ?_
    replace r0 := x4.rp r0
    replace hx := x4.rp hx
    have x14 := (x1.trans x13).trans x4
    cases hp : pairB c with
    | false =>
      rw [row_pair hp, Bool.false_and, Bool.false_and] at e2
      rcases tupCases c with ⟨cs, ec⟩ | hd
      · subst ec
        have h2 := pair_len hp
        refine if0 (et_or (et_not (et_B (ev_isTup (ev_var rfl rc)))) fun _ => et_or (b := false) (et_of (ev_neI (ev_len (es_of_t (ev_var rfl rc))) ev_int)) fun h => by rw [h2] at h; cases h) (fun hb H5 x5 => ret0 kk (x14.trans x5) ev_bl (congrArg PyData.bool e2)) fun hb => by rw [h2] at hb; cases hb
      · refine if0 (et_or (b := false) (et_not (et_B (ev_isTup (ev_var rfl rc)))) fun h => by rw [hd] at h; cases h) (fun hb H5 x5 => ret0 kk (x14.trans x5) ev_bl (congrArg PyData.bool e2)) fun hb => by rw [hd] at hb; cases hb
    | true =>
      obtain ⟨a, b, ec⟩ := pairB_some hp
      subst ec
      have hrow : rowB 96 (.tuple [a, b]) = (lotB a 7 0 19 && wholeB b 1 96) := rfl
      rw [hrow] at e2
      refine if0 (et_or (et_not (et_B (ev_isTup (ev_var rfl rc)))) fun _ => et_or (et_of (ev_neI (ev_len (es_of_t (ev_var rfl rc))) ev_int)) fun _ => et_not (et_B (ev_call (ea_cons (ev_at (j := 0) (ev_var rfl rc) rfl) (ea_cons ev_int (ea_cons ev_int (ea_cons ev_int ea_nil)))) ⟨a, 7, 0, 19, rfl, rfl, by decide⟩))) (fun hb H5 x5 => ?_) fun hb H5 x5 => ?_
      · have hb' : (!lotB a 7 0 19) = true := hb
        rw [Bool.not_eq_true'] at hb'
        rw [hb', Bool.false_and, Bool.false_and, Bool.false_and] at e2
        exact ret0 kk (x14.trans x5) ev_bl (congrArg PyData.bool e2)
      have hb' : (!lotB a 7 0 19) = false := hb
      rw [Bool.not_eq_false'] at hb'
      rw [hb', Bool.true_and] at e2
      obtain ⟨ns, ea, _⟩ := lotB_some hb'
      subst ea
      replace r0 := x5.rp r0
      replace hx := x5.rp hx
      replace rc := x5.rp rc
      refine if0 (b := !wholeB b 1 96) ?_ (fun hb H6 x6 => ?_) fun hb H6 x6 => ?_
      · cases hw : isW b with
        | false => exact et_is (et_or (b := false) (et_not (et_B (ev_call (ea_cons (ev_at (j := 1) (ev_var rfl rc) rfl) ea_nil) ⟨_, rfl, rfl⟩))) fun h => by rw [hw] at h; cases h) (by rw [hw, whole_not hw]; rfl)
        | true =>
          obtain ⟨n, e⟩ := isW_some hw
          subst e
          exact et_is (et_or (et_not (et_B (ev_call (ea_cons (ev_at (j := 1) (ev_var rfl rc) rfl) ea_nil) ⟨_, rfl, rfl⟩))) fun _ => et_not (et_of (ev_chain ev_int (ev_at (j := 1) (ev_var rfl rc) rfl) rv_B0 (fun _ => ev_int) rv_B0))) rfl
      · rw [Bool.not_eq_true'] at hb
        rw [hb, Bool.false_and, Bool.false_and] at e2
        exact ret0 kk ((x14.trans x5).trans x6) ev_bl (congrArg PyData.bool e2)
      rw [Bool.not_eq_false'] at hb
      obtain ⟨n, eb, _⟩ := wholeInt hb
      subst eb
      rw [hb, Bool.true_and] at e2
      replace r0 := x6.rp r0
      replace hx := x6.rp hx
      replace rc := x6.rp rc
      have x16 := (x14.trans x5).trans x6
      have e2' : ((ds.drop (i + 1)).all (rowB 96) && (okKey (lastK ds i) ns && adjFrom (some ns) (ds.drop (i + 1)))) = (ds.all (rowB 96) && adjFrom none ds) := by
        rw [← e2]
        show _ = ((ds.drop (i + 1)).all (rowB 96) && (okKey (lastK ds i) (keyOf (.tuple [.tuple (ns.map .int), .int n])) && adjFrom (some (keyOf (.tuple [.tuple (ns.map .int), .int n]))) (ds.drop (i + 1))))
        rw [keyOf_row]
      have hgetc : ds.getD i .none = .tuple [.tuple (ns.map .int), .int n] := by rw [List.getD_eq_getElem?_getD, hc]; rfl
      have hnext : okKey (lastK ds i) ns = true → ns.length = (keyOf (ds.getD 0 .none)).length → ∀ H', Wx W0 H6 H' → N [some v0, some x, some vc] H' := fun hk hlen H' x7 => hN _ _ (((x4.trans x5).trans x6).trans x7) ⟨some x, some vc, rfl, fun k hk2 => by
        by_cases z : k < i
        · exact hprev k z
        · have : k = i := by omega
          subst this
          exact ⟨ns, n, hc, hlen⟩, by
        rw [← e2', hk, Bool.true_and]
        show _ = ((ds.drop (i + 1)).all (rowB 96) && adjFrom (some ns) (ds.drop (i + 1)))
        have : lastK ds (i + 1) = some ns := by
          show some (keyOf (ds.getD i .none)) = _
          rw [hgetc, keyOf_row]
        rw [this]⟩
      cases i with
      | zero =>
        refine st_if (W := W0) trivial (et_and (b := false) (et_of (ev_opB0 (ev_var rfl hx) ev_int)) fun h => by cases h) (fun hb => by cases hb) fun _ H7 x7 => ?_
        refine hnext rfl ?_ H7 x7
        rw [hgetc, keyOf_row]
      | succ j =>
        obtain ⟨ms, m, gj, lj⟩ := hprev j (Nat.lt_succ_self j)
        obtain ⟨m0, k0, g0, l0⟩ := hprev 0 (Nat.succ_pos j)
        have hj1 : j + 1 < ds.length := hil
        have hk0 : keyOf (ds.getD 0 .none) = m0 := by
          rw [List.getD_eq_getElem?_getD, g0]
          exact keyOf_row m0 _
        have hkj : lastK ds (j + 1) = some ms := by
          show some (keyOf (ds.getD j .none)) = _
          rw [List.getD_eq_getElem?_getD, gj]
          exact congrArg some (keyOf_row ms _)
        rw [hk0] at lj hnext
        rw [hkj] at e2' hnext
        have e5 : decide ((((ns.map PyData.int).length : Nat) : Int) = (((m0.map PyData.int).length : Nat) : Int)) = decide (ns.length = m0.length) := by
          rw [List.length_map, List.length_map]
          exact decide_eq_decide.mpr Int.ofNat_inj
        have hgt : decide (((j + 1 : Nat) : Int) > 0) = true := decide_eq_true (by omega)
        refine st_if (W := W0) trivial (et_and (et_of (ev_opB0 (ev_var rfl hx) ev_int)) fun _ => et_or (et_of (ev_neI (ev_len (es_of_t (ev_at (j := 0) (ev_var rfl rc) rfl))) (ev_len (es_of_t (ev_at (j := 0) (ev_ixT (i := 0) (j := 0) (ev_var rfl r0) ev_int (ixN_nat (j := 0) (Nat.lt_of_le_of_lt (Nat.zero_le _) hj1)) g0) rfl))))) fun _ => et_of (ev_leT (ev_at (j := 0) (ev_var rfl rc) rfl) (ev_at (j := 0) (ev_ixT (j := j) (ev_var rfl r0) (ev_opI0 (ev_var rfl hx) ev_int) ?_ gj) rfl))) (fun hb3 H7 x7 => ?_) fun hb3 H7 x7 => ?_
        · have := ixN_nat (n := ds.length) (j := j) (by omega)
          rw [show ((j : Nat) : Int) = ((j + 1 : Nat) : Int) - 1 by omega] at this
          exact this
        · refine ret0 kk (x16.trans x7) ev_bl ?_
          rw [hgt, Bool.true_and, e5] at hb3
          have : okKey (some ms) ns = false := by
            show (decide (ns.length = ms.length) && HT.lexLt ms ns) = false
            rw [lj]
            cases h1 : decide (ns.length = m0.length) with
            | false => rfl
            | true =>
              rw [h1, Bool.not_true, Bool.false_or, Bool.not_eq_true'] at hb3
              rw [hb3]
              rfl
          rw [this, Bool.false_and, Bool.and_false] at e2'
          exact congrArg PyData.bool e2'
        · rw [hgt, Bool.true_and, e5, Bool.or_eq_false_iff, Bool.not_eq_false', Bool.not_eq_false', decide_eq_true_eq] at hb3
          refine hnext ?_ hb3.1 H7 x7
          show (decide (ns.length = ms.length) && HT.lexLt ms ns) = true
          rw [lj, decide_eq_true hb3.1, hb3.2]
          rfl
  · subst e1
    have hln : (rngD 0 (((ds.length : Nat) : Int)).toNat).length = ds.length := by
      unfold rngD
      rw [List.length_map, List.length_range]
      omega
    rw [hln, List.drop_length] at e2
    exact ret0 kk (x1.trans x2) ev_bl (congrArg PyData.bool e2)
end
end Fd
-- LD4
namespace Fd
open PySem PySem.Spec PyProof.Rows L2
theorem inStr (w : Str) : ∀ ts : List Str, inV (sc (.str w)) ((ts.map PyData.str).map sc) = decide (w ∈ ts)
  | [] => rfl
  | t :: ts => by
    have ih := inStr w ts
    unfold inV at ih ⊢
    rw [List.map_cons, List.map_cons, List.any_cons, ih]
    show ((t == w) || _) = _
    rw [show (t == w) = decide (t = w) from (Bool.beq_eq_decide_eq t w), ← Bool.decide_or]
    exact decide_eq_decide.mpr ⟨fun h => by
      rcases h with h | h
      · rw [h]; exact List.mem_cons_self ..
      · exact List.mem_cons_of_mem _ h, fun h => by
      rcases List.mem_cons.mp h with h | h
      · exact .inl h.symm
      · exact .inr h⟩
theorem scStr (ts : List Str) : ∀ e ∈ ts.map PyData.str, isSc e = true := fun e he => by
  obtain ⟨t, _, z⟩ := List.mem_map.mp he
  subst z
  rfl
section
variable {W : Wd} {K : PySem.W.Frag} {σ : L2.St} {H : Hp} {ta tb : TE}
theorem ev_inStr {w : Str} (ts : List Str) (ha : Ev W K ta σ H (.str w)) (hb : EvS W K tb σ H (ts.map .str)) : Ev W K (tOp (rIn K false) ta tb) σ H (.bool (decide (w ∈ ts))) := by
  refine ev_is (ev_in (neg := false) ha hb rfl (scStr ts)) ?_
  rw [if_neg (by decide), inStr]
theorem ev_notInStr {w : Str} (ts : List Str) (ha : Ev W K ta σ H (.str w)) (hb : EvS W K tb σ H (ts.map .str)) : Ev W K (tOp (rIn K true) ta tb) σ H (.bool (!decide (w ∈ ts))) := by
  refine ev_is (ev_in (neg := true) ha hb rfl (scStr ts)) ?_
  rw [if_pos rfl, inStr]
end
def restX (w : Str) : PyData → Bool
  | .tuple ds => restB w ds
  | _ => false
theorem paper_rest {w : Str} (h : ¬ w = tCrowd) (x : PyData) : paperB (.tuple [.str w, x]) = restX w x := by
  unfold paperB
  dsimp only
  rw [if_neg h]
  cases x <;> rfl
theorem paper_len {w : Str} (h : ¬ w = tCrowd) {r : List PyData} (hr : r.length ≠ 1) : paperB (.tuple (.str w :: r)) = false := by
  unfold paperB
  dsimp only
  rw [if_neg h]
  match r with
  | [] => rfl
  | [_] => exact (hr rfl).elim
  | x :: _ :: _ => cases x <;> rfl
theorem rest_none {w : Str} (h : ¬ (w = tFill ∨ w = tSight ∨ w = tMatch ∨ w = tPlan ∨ w = tVine)) (x : PyData) : restX w x = false := by
  simp only [not_or] at h
  cases x with
  | tuple ds =>
    show restB w ds = false
    unfold restB
    rw [decide_eq_false h.1, decide_eq_false h.2.1, if_neg (by decide), if_neg h.2.2.1, if_neg h.2.2.2.1, decide_eq_false h.2.2.2.2]
    rfl
  | _ => rfl
section
variable {P : Program} {w : World} {K : PySem.W.Frag} {mg : Str → Option Value} {base : Heap}
theorem cd__law_is_paper_of (T : Tx K mg) : Cd P w K mg base CX0 4 "_law_is_paper_of" (SpD K (fB1 paperB)) := by
  refine cd_of (k := 3) T.d__law_is_paper_of sc__law_is_paper_of (fun _ _ _ _ _ _ us hl => match us, hl with | [_], _ => rfl) (SpD.len fun ds r h => by obtain ⟨_, e, _⟩ := h; rw [e]; rfl) ?_
  intro f cdv A outer s H vs Q E hr ⟨ds, r, hds, hf, kk⟩
  obtain ⟨d, e1, e2⟩ := hf
  subst e1 e2
  obtain ⟨v0, e, r0⟩ := rps1 hds
  subst e
  refine ⟨_, (pss_cons (ps_if (PW.pt (pw_or (pt_not (pt_val (pe_callB (kIsi K) (by rfl) T.n_isinstance (by decide +kernel) (pa_cons (pv 0) (pa_cons (pe_bltn (v := .ty "tuple") (u := .type "tuple") (by rfl) T.n_tuple (by decide +kernel) rfl) pa_nil))))) (pw_or (pt_cmpR (op_eq0 hr.units0) (pv 0) (pe_tup pa_nil) (nomark _)) (pw_or1 (pt_not (pt_val (pe_callB (kIsi K) (by rfl) T.n_isinstance (by decide +kernel) (pa_cons (pe_ix (ixT K) (pv 0) pe_int (fun _ _ => rfl)) (pa_cons (pe_bltn (v := .ty "str") (u := .type "str") (by rfl) T.n_str (by decide +kernel) rfl) pa_nil)))))))))
      (pss_one (ps_ret pe_bl)) pss_nil)
    (pss_cons (ps_if (pt_cmpR op_eq (pe_ix (ixT K) (pv 0) pe_int (fun _ _ => rfl)) pe_str (nomark _))
      (pss_cons (ps_if (PW.pt (pw_or (pt_cmpR op_ne (pe_callB (kLen K) (by rfl) T.n_len PySem.boot_len (pa_cons (pv 0) pa_nil)) pe_int (nomark _)) (pw_or (pt_not (pt_val (pe_d (cd__law_is_whole T) hr (by decide) (pa_cons (pe_ix (ixT K) (pv 0) pe_int (fun _ _ => rfl)) pa_nil)))) (pw_or1 (pt_not (pt_chain op_le op_le pe_int (pe_ix (ixT K) (pv 0) pe_int (fun _ _ => rfl)) pe_int))))))
        (pss_one (ps_ret pe_bl)) pss_nil)
      (pss_one (ps_ret (pe_d (cd__law_is_lot_of T) hr (by decide) (pa_cons (pe_ix (ixT K) (pv 0) pe_int (fun _ _ => rfl)) (pa_cons pe_int (pa_cons pe_int (pa_cons (pe_op op_sub (pe_op op_pow pe_int pe_int) pe_int) pa_nil)))))))) pss_nil)
    (pss_cons (ps_if (PW.pt (pw_or (pt_cmpR op_ne (pe_callB (kLen K) (by rfl) T.n_len PySem.boot_len (pa_cons (pv 0) pa_nil)) pe_int (nomark _)) (pw_or1 (pt_cmpR (kNotIn K) (pe_ix (ixT K) (pv 0) pe_int (fun _ _ => rfl)) (pe_lst (pa_cons pe_str (pa_cons pe_str (pa_cons pe_str (pa_cons pe_str (pa_cons pe_str pa_nil)))))) (by first | exact nomark _ | rfl)))))
      (pss_one (ps_ret pe_bl)) pss_nil)
    (pss_cons (ps_if (pt_cmpR (kIn K) (pe_ix (ixT K) (pv 0) pe_int (fun _ _ => rfl)) (pe_lst (pa_cons pe_str (pa_cons pe_str pa_nil))) (by first | exact nomark _ | rfl))
      (pss_one (ps_ret (pe_d (cd__law_are_rows T) hr (by decide) (pa_cons (pe_ix (ixT K) (pv 0) pe_int (fun _ _ => rfl)) pa_nil)))) pss_nil)
    (pss_cons (ps_if (pt_cmpR op_eq (pe_ix (ixT K) (pv 0) pe_int (fun _ _ => rfl)) pe_str (nomark _))
      (pss_one (ps_ret (pe_d (cd__law_are_ties T) hr (by decide) (pa_cons (pe_ix (ixT K) (pv 0) pe_int (fun _ _ => rfl)) pa_nil)))) pss_nil)
    (pss_cons (ps_if (PW.pt (pw_or (pt_not (pt_val (pe_callB (kIsi K) (by rfl) T.n_isinstance (by decide +kernel) (pa_cons (pe_ix (ixT K) (pv 0) pe_int (fun _ _ => rfl)) (pa_cons (pe_bltn (v := .ty "tuple") (u := .type "tuple") (by rfl) T.n_tuple (by decide +kernel) rfl) pa_nil))))) (pw_or1 (pt_cmpR op_gt (pe_callB (kLen K) (by rfl) T.n_len PySem.boot_len (pa_cons (pe_ix (ixT K) (pv 0) pe_int (fun _ _ => rfl)) pa_nil)) (pe_ifExp (pt_cmpR op_eq (pe_ix (ixT K) (pv 0) pe_int (fun _ _ => rfl)) pe_str (nomark _)) pe_int pe_int) (nomark _)))))
      (pss_one (ps_ret pe_bl)) pss_nil)
    (pss_cons (ps_if (pt_cmpR op_eq (pe_ix (ixT K) (pv 0) pe_int (fun _ _ => rfl)) pe_str (nomark _))
      (pss_one (ps_ret (pe_cmpR (op_eq0 hr.units0) (pe_lc (own := [("one", 1)]) rfl sc__law_is_paper_of.nd (pi_tup (pe_ix (ixT K) (pv 0) pe_int (fun _ _ => rfl))) (blkOk_by (N := N__law_is_paper_of) (sc := defScope s__law_is_paper_of) (by decide +kernel)) (fun _ _ _ _ _ => (pg_name (i := 1) sc__law_is_paper_of.nd rfl (Or.inl rfl))) (fun _ _ _ _ _ => (pts_one (pt_not (pt_val (pe_d (cd__law_is_lot_of T) hr (by decide) (pa_cons (pv 1) (pa_cons pe_int (pa_cons pe_int (pa_cons pe_int pa_nil))))))))) (fun _ _ _ _ _ => (pv 1))) (pe_lst pa_nil) (nomark _)))) pss_nil)
    (pss_one (ps_ret (pe_cmpR (op_eq0 hr.units0) (pe_lc (own := [("one", 1)]) rfl sc__law_is_paper_of.nd (pi_tup (pe_ix (ixT K) (pv 0) pe_int (fun _ _ => rfl))) (blkOk_by (N := N__law_is_paper_of) (sc := defScope s__law_is_paper_of) (by decide +kernel)) (fun _ _ _ _ _ => (pg_name (i := 1) sc__law_is_paper_of.nd rfl (Or.inl rfl))) (fun _ _ _ _ _ => (pts_one (pt_not (pt_val (pe_d (cd__law_is_great T) hr (by decide) (pa_cons (pv 1) pa_nil)))))) (fun _ _ _ _ _ => (pv 1))) (pe_lst pa_nil) (nomark _))))))))))), ?_⟩
  rcases tupCases d with ⟨ds, e⟩ | hd
  rotate_left
  · refine if0 (et_or (b := false) (et_not (et_B (ev_isTup (ev_var rfl r0)))) fun h => by rw [hd] at h; cases h) (fun hb H1 x1 => ?_) fun hb H1 x1 => ?_
    · refine ret0 kk x1 ev_bl ?_
      cases d with
      | tuple ds => cases hd
      | _ => rfl
    · rw [hd] at hb
      cases hb
  subst e
  match ds with
  | [] =>
    exact if0 (et_or (b := true) (et_not (et_B (ev_isTup (ev_var rfl r0)))) fun h => et_is (et_or (b := false) (et_of (ev_eq0T (ev_var rfl r0))) fun h => by cases h) rfl) (fun hb H1 x1 => ret0 kk x1 ev_bl rfl) fun hb => by cases hb
  | d0 :: r =>
    refine if0 (et_or (et_not (et_B (ev_isTup (ev_var rfl r0)))) fun h => et_or (et_of (ev_eq0T (ev_var rfl r0))) fun _ => (et_not (et_B (ev_isStr (ev_at (j := 0) (ev_var rfl r0) rfl))))) (fun hb H1 x1 => ?_) fun hb H1 x1 => ?_
    · refine ret0 kk x1 ev_bl ?_
      cases d0 with
      | str w => cases hb
      | _ => rfl
    · cases d0 with
      | str w =>
        replace r0 := x1.rp r0
        refine if0 (et_of (ev_eqS (ev_at (j := 0) (ev_var rfl r0) rfl) ev_str)) (fun hb H2 x2 => ?_) fun hb2 H2 x2 => ?_
        · have hc : w = tCrowd := of_decide_eq_true hb
          replace r0 := x2.rp r0
          have hcr : paperB (.tuple (.str w :: r)) = crowdB (.str w :: r) := if_pos hc
          rw [hcr] at kk
          match r with
          | [] => exact if0 (et_or (b := false) (et_of (ev_neI (ev_len (es_of_t (ev_var rfl r0))) ev_int)) fun h => by cases h) (fun hb H3 x3 => ret0 kk ((x1.trans x2).trans x3) ev_bl rfl) fun hb => by cases hb
          | [a] => exact if0 (et_or (b := false) (et_of (ev_neI (ev_len (es_of_t (ev_var rfl r0))) ev_int)) fun h => by cases h) (fun hb H3 x3 => ret0 kk ((x1.trans x2).trans x3) ev_bl rfl) fun hb => by cases hb
          | a :: b :: c :: l =>
            have hd : decide ((((PyData.str w :: a :: b :: c :: l).length : Nat) : Int) = 3) = false := decide_eq_false fun z => by
              rw [List.length_cons, List.length_cons, List.length_cons, List.length_cons] at z
              omega
            refine if0 (et_or (b := false) (et_of (ev_neI (ev_len (es_of_t (ev_var rfl r0))) ev_int)) fun h => by rw [hd] at h; cases h) (fun hb H3 x3 => ret0 kk ((x1.trans x2).trans x3) ev_bl rfl) fun hb => by rw [hd] at hb; cases hb
          | [a, b] =>
            have hcB : crowdB [.str w, a, b] = (wholeB a 0 1 && lotB b 80 0 HI) := rfl
            rw [hcB] at kk
            refine if0 (b := !wholeB a 0 1) ?_ (fun hb H3 x3 => ?_) fun hb H3 x3 => ?_
            · cases hw : isW a with
              | false => exact et_is (et_or (et_of (ev_neI (ev_len (es_of_t (ev_var rfl r0))) ev_int)) fun _ => et_or (b := false) (et_not (et_B (ev_call (ea_cons (ev_at (j := 1) (ev_var rfl r0) rfl) ea_nil) ⟨_, rfl, rfl⟩))) fun h => by rw [hw] at h; cases h) (by rw [hw, whole_not hw]; rfl)
              | true =>
                obtain ⟨n, e⟩ := isW_some hw
                subst e
                exact et_is (et_or (et_of (ev_neI (ev_len (es_of_t (ev_var rfl r0))) ev_int)) fun _ => et_or (et_not (et_B (ev_call (ea_cons (ev_at (j := 1) (ev_var rfl r0) rfl) ea_nil) ⟨_, rfl, rfl⟩))) fun _ => et_not (et_of (ev_chain ev_int (ev_at (j := 1) (ev_var rfl r0) rfl) rv_B0 (fun _ => ev_int) rv_B0))) rfl
            · rw [Bool.not_eq_true'] at hb
              refine ret0 kk ((x1.trans x2).trans x3) ev_bl ?_
              rw [hb]
              rfl
            · rw [Bool.not_eq_false'] at hb
              refine ret0 kk ((x1.trans x2).trans x3) (ev_call (ea_cons (ev_at (j := 2) (ev_var rfl (x3.rp r0)) rfl) (ea_cons ev_int (ea_cons ev_int (ea_cons (ev_opI0 (ev_opI ev_int ev_int (by unfold CPow; decide +kernel)) ev_int) ea_nil)))) ⟨b, 80, 0, HI, rfl, rfl, by decide⟩) ?_
              rw [hb]
              rfl
        · have nc : ¬ w = tCrowd := of_decide_eq_false hb2
          replace r0 := x2.rp r0
          by_cases hr1 : r.length = 1
          rotate_left
          · have hd : decide ((((PyData.str w :: r).length : Nat) : Int) = 2) = false := decide_eq_false fun z => by
              rw [List.length_cons] at z
              omega
            rw [paper_len nc hr1] at kk
            exact if0 (et_or (b := false) (et_of (ev_neI (ev_len (es_of_t (ev_var rfl r0))) ev_int)) fun h => by rw [hd] at h; cases h) (fun hb H3 x3 => ret0 kk ((x1.trans x2).trans x3) ev_bl rfl) fun hb => by rw [hd] at hb; cases hb
          · match r, hr1 with
            | [x], _ =>
              rw [paper_rest nc] at kk
              refine if0 (et_or (et_of (ev_neI (ev_len (es_of_t (ev_var rfl r0))) ev_int)) fun h => et_of (ev_notInStr [tFill, tSight, tMatch, tPlan, tVine] (ev_at (j := 0) (ev_var rfl r0) rfl) (es_of_l (el_lst (ea_cons ev_str (ea_cons ev_str (ea_cons ev_str (ea_cons ev_str (ea_cons ev_str ea_nil))))))))) (fun hb H3 x3 => ?_) fun hb H3 x3 => ?_
              · have hn : ¬ (w ∈ [tFill, tSight, tMatch, tPlan, tVine]) := by
                  have hb' : (!decide (w ∈ [tFill, tSight, tMatch, tPlan, tVine])) = true := hb
                  rw [Bool.not_eq_true', decide_eq_false_iff_not] at hb'
                  exact hb'
                rw [rest_none (by simpa using hn)] at kk
                exact ret0 kk ((x1.trans x2).trans x3) ev_bl rfl
              · have hin : w ∈ [tFill, tSight, tMatch, tPlan, tVine] := by
                  have hb' : (!decide (w ∈ [tFill, tSight, tMatch, tPlan, tVine])) = false := hb
                  rw [Bool.not_eq_false', decide_eq_true_eq] at hb'
                  exact hb'
                have x13 := (x1.trans x2).trans x3
                replace r0 := x3.rp r0
                refine if0 (et_of (ev_inStr [tFill, tSight] (ev_at (j := 0) (ev_var rfl r0) rfl) (es_of_l (el_lst (ea_cons ev_str (ea_cons ev_str ea_nil)))))) (fun hb H4 x4 => ?_) fun hb H4 x4 => ?_
                · refine ret0 kk (x13.trans x4) (ev_call (ea_cons (ev_at (j := 1) (ev_var rfl (x4.rp r0)) rfl) ea_nil) ⟨_, rfl, rfl⟩) ?_
                  have h1 : (decide (w = tFill) || decide (w = tSight)) = true := by
                    rw [decide_eq_true_eq] at hb
                    simpa using hb
                  cases x with
                  | tuple ds =>
                    show PyData.bool (decide ((ds.length : Int) ≤ 3000) && chainB 96 ds) = .bool (restB w ds)
                    unfold restB
                    rw [if_pos h1]
                  | _ => rfl
                · have h1 : ¬ (decide (w = tFill) || decide (w = tSight)) = true := by
                    rw [decide_eq_false_iff_not] at hb
                    simpa using hb
                  replace r0 := x4.rp r0
                  refine if0 (et_of (ev_eqS (ev_at (j := 0) (ev_var rfl r0) rfl) ev_str)) (fun hb H5 x5 => ?_) fun hb H5 x5 => ?_
                  · have hm : w = tMatch := of_decide_eq_true hb
                    refine ret0 kk ((x13.trans x4).trans x5) (ev_call (ea_cons (ev_at (j := 1) (ev_var rfl (x5.rp r0)) rfl) ea_nil) ⟨_, rfl, rfl⟩) ?_
                    cases x with
                    | tuple ds =>
                      show PyData.bool (tiesB ds) = .bool (restB w ds)
                      unfold restB
                      rw [if_neg h1, if_pos hm]
                    | _ => rfl
                  · have h2 : ¬ w = tMatch := of_decide_eq_false hb
                    replace r0 := x5.rp r0
                    have x15 := (x13.trans x4).trans x5
                    rcases tupCases x with ⟨ds, ex⟩ | hx
                    rotate_left
                    · have hrx : restX w x = false := by
                        cases x with
                        | tuple ds => cases hx
                        | _ => rfl
                      rw [hrx] at kk
                      exact if0 (et_or (b := false) (et_not (et_B (ev_isTup (ev_at (j := 1) (ev_var rfl r0) rfl)))) fun h => by rw [hx] at h; cases h) (fun hb H6 x6 => ret0 kk (x15.trans x6) ev_bl rfl) fun hb => by rw [hx] at hb; cases hb
                    subst ex
                    have hrx : restX w (.tuple ds) = (if w = tPlan then decide ((ds.length : Int) ≤ 159) && ds.all setB else decide ((ds.length : Int) ≤ 400) && ds.all greatB) := by
                      show restB w ds = _
                      unfold restB
                      rw [if_neg h1, if_neg h2]
                      by_cases hp : w = tPlan
                      · rw [if_pos hp, if_pos hp]
                      · rw [if_neg hp, if_neg hp]
                        have hv : w = tVine := by
                          simp only [List.mem_cons, List.not_mem_nil, or_false] at hin
                          rcases hin with z | z | z | z | z
                          · exact (h1 (by rw [decide_eq_true z]; rfl)).elim
                          · exact (h1 (by rw [decide_eq_true z, Bool.or_true])).elim
                          · exact (h2 z).elim
                          · exact (hp z).elim
                          · exact z
                        rw [decide_eq_true hv, Bool.true_and]
                    rw [hrx] at kk
                    have hsel : Ev W0 K _ _ H5 (.int (if w = tPlan then 159 else 400)) := ev_is (ev_if (t := tTest (tOp rEq (tOp (rIxT K) (tVar 0) (tC (.int 0))) (tC (.str (Str.ofString "plan"))))) (σ := [some v0, none]) (et_of (ev_eqS (ev_at (j := 0) (ev_var rfl r0) rfl) ev_str)) (fun _ => ev_int (i := 159)) fun _ => ev_int (i := 400)) (by
                      by_cases hp : w = tPlan
                      · rw [if_pos (decide_eq_true (show w = Str.ofString "plan" from hp)), if_pos hp]
                      · rw [if_neg (by rw [decide_eq_true_eq]; exact hp), if_neg hp])
                    refine if0 (et_or (et_not (et_B (ev_isTup (ev_at (j := 1) (ev_var rfl r0) rfl)))) fun h => et_of (ev_opB0 (ev_len (es_of_t (ev_at (j := 1) (ev_var rfl r0) rfl))) hsel)) (fun hb H6 x6 => ?_) fun hb H6 x6 => ?_
                    · have hb' : decide ((if w = tPlan then (159 : Int) else 400) < (ds.length : Nat)) = true := hb
                      rw [decide_eq_true_eq] at hb'
                      refine ret0 kk (x15.trans x6) ev_bl ?_
                      by_cases hp : w = tPlan
                      · rw [if_pos hp] at hb' ⊢
                        rw [decide_eq_false (by omega)]
                        rfl
                      · rw [if_neg hp] at hb' ⊢
                        rw [decide_eq_false (by omega)]
                        rfl
                    · have hb' : decide ((if w = tPlan then (159 : Int) else 400) < (ds.length : Nat)) = false := hb
                      rw [decide_eq_false_iff_not] at hb'
                      have hl : ds.length ≤ 10000000 := by
                        by_cases hp : w = tPlan
                        · rw [if_pos hp] at hb'
                          omega
                        · rw [if_neg hp] at hb'
                          omega
                      replace r0 := x6.rp r0
                      have x16 := x15.trans x6
                      refine if0 (et_of (ev_eqS (ev_at (j := 0) (ev_var rfl r0) rfl) ev_str)) (fun hb2 H7 x7 => ?_) fun hb2 H7 x7 => ?_
                      · have hp : w = tPlan := of_decide_eq_true hb2
                        rw [if_pos hp] at kk hb'
                        refine ret0 kk (x16.trans x7) (ev_no (neg := false) (src_tup (ev_at (j := 1) (ev_var rfl (x7.rp r0)) rfl)) hl (cB := fun d => !setB d) fun d _ H8 x x8 r => et_not (et_B (ev_call (ea_cons (ev_var rfl r) (ea_cons ev_int (ea_cons ev_int (ea_cons ev_int ea_nil)))) ⟨d, 7, 1, 19, rfl, rfl, by decide⟩))) ?_
                        rw [if_neg (by decide), decide_eq_true (by omega), Bool.true_and]
                        simp only [Bool.not_not]
                      · have hp : ¬ w = tPlan := of_decide_eq_false hb2
                        rw [if_neg hp] at kk hb'
                        refine ret0 kk (x16.trans x7) (ev_no (neg := false) (src_tup (ev_at (j := 1) (ev_var rfl (x7.rp r0)) rfl)) hl (cB := fun d => !greatB d) fun d _ H8 x x8 r => et_not (et_B (ev_call (ea_cons (ev_var rfl r) ea_nil) ⟨_, rfl, rfl⟩))) ?_
                        rw [if_neg (by decide), decide_eq_true (by omega), Bool.true_and]
                        simp only [Bool.not_not]
      | _ => cases hb
end
end Fd
-- M7
namespace Fd
open PySem PySem.Spec PyProof.Rows L2
theorem isF_all {l : List Nat} {n : Int} (h : numOf l = some n) : ∀ c ∈ l, isF c = true := by
  unfold numOf at h
  by_cases hb : numB l = true
  · unfold numB at hb
    rw [Bool.and_eq_true, Bool.and_eq_true, Bool.and_eq_true, List.all_eq_true] at hb
    exact hb.2.1
  · rw [if_neg hb] at h
    cases h
theorem spl_par (c : Nat) : ∀ (l acc : List Nat), TL.spl [c] 0 acc l = match TL.par [c] acc l with | some (a, b) => a :: TL.spl [c] 0 [] b | none => [acc ++ l]
  | [], acc => by
    rw [TL.spl_nil, List.append_nil]
    rfl
  | d :: r, acc => by
    by_cases h : d = c
    · subst h
      rw [TL.spl_hit (by simp [TL.pre]), TL.par_hit (by simp [TL.pre])]
      rfl
    · rw [TL.spl_miss (TL.pre_of_head [] r h), TL.par_miss (TL.pre_of_head [] r h), spl_par c r (acc ++ [d])]
      rw [List.append_assoc]
      rfl
theorem par_mem (c : Nat) : ∀ (l acc : List Nat) (ab : List Nat × List Nat), TL.par [c] acc l = some ab → c ∈ l
  | [], acc, ab, h => by cases h
  | d :: r, acc, ab, h => by
    by_cases hd : d = c
    · rw [hd]; exact List.mem_cons_self ..
    · rw [TL.par_miss (TL.pre_of_head [] r hd)] at h
      exact List.mem_cons_of_mem _ (par_mem c r _ ab h)
theorem spl_mem (c e : Nat) (he : e ≠ c) : ∀ (l acc : List Nat), (e ∈ acc ∨ e ∈ l) → ∃ w ∈ TL.spl [c] 0 acc l, e ∈ w
  | [], acc, h => by
    rw [TL.spl_nil]
    exact ⟨acc, List.mem_singleton.mpr rfl, h.elim id fun z => by cases z⟩
  | d :: r, acc, h => by
    by_cases hd : d = c
    · subst hd
      rw [TL.spl_hit (by simp [TL.pre])]
      rcases h with h | h
      · exact ⟨acc, List.mem_cons_self .., h⟩
      · rcases List.mem_cons.mp h with z | z
        · exact (he z).elim
        · obtain ⟨w, hw, h2⟩ := spl_mem d e he r [] (.inr z)
          exact ⟨w, List.mem_cons_of_mem _ hw, h2⟩
    · rw [TL.spl_miss (TL.pre_of_head [] r hd)]
      refine spl_mem c e he r (acc ++ [d]) ?_
      rcases h with h | h
      · exact .inl (List.mem_append_left _ h)
      · rcases List.mem_cons.mp h with z | z
        · exact .inl (List.mem_append_right _ (by rw [z]; exact List.mem_singleton.mpr rfl))
        · exact .inr z
theorem listOf_figs {l : List Nat} {ns : List Int} (h : listOf l = some ns) : ∀ c ∈ l, isF c = true ∨ c = 44 := fun c hc => by
  by_cases h44 : c = 44
  · exact .inr h44
  · obtain ⟨w, hw, hcw⟩ := spl_mem 44 c h44 l [] (.inr hc)
    unfold listOf at h
    cases e : allSome ((TL.spl [44] 0 [] l).map numOf) with
    | none => rw [e] at h; cases h
    | some ms =>
      have hs := allSome_some e
      have : numOf w ∈ ms.map some := by
        rw [← hs]
        exact List.mem_map_of_mem hw
      obtain ⟨n, _, hn⟩ := List.mem_map.mp this
      exact .inl (isF_all hn.symm c hcw)
theorem listOf_none {c : Nat} {l : List Nat} (hc : c ∈ l) (h1 : isF c = false) (h2 : c ≠ 44) : listOf l = none := by
  cases e : listOf l with
  | none => rfl
  | some ns =>
    rcases listOf_figs e c hc with z | z
    · rw [h1] at z; cases z
    · exact (h2 z).elim
theorem numOf_no {c : Nat} {l : List Nat} (hc : c ∈ l) (h1 : isF c = false) : numOf l = none := by
  cases e : numOf l with
  | none => rfl
  | some n =>
    have := isF_all e c hc
    rw [h1] at this
    cases this
/-- what a list's word is worth: rising, nothing below nought, not empty -/
theorem listOf_rise {l : List Nat} {ns : List Int} (h : listOf l = some ns) : rise ns = true ∧ (∀ n ∈ ns, gr n) ∧ ns ≠ [] := by
  unfold listOf at h
  cases e : allSome ((TL.spl [44] 0 [] l).map numOf) with
  | none => rw [e] at h; cases h
  | some ms =>
    rw [e] at h
    dsimp only at h
    by_cases hr : rise ms = true
    · rw [if_pos hr] at h
      cases h
      have hs := allSome_some e
      refine ⟨hr, fun n hn => ?_, fun z => ?_⟩
      · have : some n ∈ (TL.spl [44] 0 [] l).map numOf := by
          rw [hs]
          exact List.mem_map_of_mem hn
        obtain ⟨w, _, hw⟩ := List.mem_map.mp this
        exact numOf_gr hw
      · subst z
        exact spl_ne 44 l [] (List.map_eq_nil_iff.mp hs)
    · rw [if_neg hr] at h
      cases h
theorem rise_head : ∀ {a : Int} {r : List Int}, rise (a :: r) = true → ∀ n ∈ a :: r, a ≤ n
  | a, [], _, n, hn => by rw [List.mem_singleton.mp hn]; exact Int.le_refl _
  | a, b :: r, h, n, hn => by
    rw [rise_cons, Bool.and_eq_true, decide_eq_true_eq] at h
    rcases List.mem_cons.mp hn with z | z
    · rw [z]; exact Int.le_refl _
    · have := rise_head h.2 n z
      omega
theorem rise_last : ∀ {ns : List Int} {l : Int}, rise ns = true → ns.getLast? = some l → ∀ n ∈ ns, n ≤ l
  | [], l, _, h => by cases h
  | [a], l, _, h => by
    cases h
    intro n hn
    rw [List.mem_singleton.mp hn]
    exact Int.le_refl _
  | a :: b :: r, l, h, hl => by
    rw [rise_cons, Bool.and_eq_true, decide_eq_true_eq] at h
    rw [List.getLast?_cons_cons] at hl
    have ih := rise_last h.2 hl
    intro n hn
    rcases List.mem_cons.mp hn with z | z
    · have := ih b (List.mem_cons_self ..)
      rw [z]
      omega
    · exact ih n z
/-- in bounds: by the first and the last -/
theorem lot_ends {ns : List Int} {m : Nat} {lo hi a l : Int} (hr : rise ns = true) (ha : ns.head? = some a) (hl : ns.getLast? = some l) : lotI ns m lo hi = (decide (ns.length ≤ m) && (decide (lo ≤ a) && decide (l ≤ hi))) := by
  cases ns with
  | nil => cases ha
  | cons b r =>
    cases ha
    have h1 : decide (1 ≤ (a :: r).length) = true := decide_eq_true (by simp)
    unfold lotI
    rw [h1, Bool.true_and, hr, Bool.and_true]
    congr 1
    rw [Bool.eq_iff_iff, List.all_eq_true, Bool.and_eq_true, decide_eq_true_eq, decide_eq_true_eq]
    constructor
    · intro h
      have g1 := h a (List.mem_cons_self ..)
      have g2 := h l (List.mem_of_getLast? hl)
      rw [Bool.and_eq_true, decide_eq_true_eq, decide_eq_true_eq] at g1 g2
      exact ⟨g1.1, g2.2⟩
    · intro h n hn
      have g1 := rise_head hr n hn
      have g2 := rise_last hr hl n hn
      rw [Bool.and_eq_true, decide_eq_true_eq, decide_eq_true_eq]
      omega
def lotOf (l : List Nat) : Option (List Int) :=
  match listOf l with
  | some ns => if lotI ns 7 1 19 = true then some ns else none
  | none => none
theorem setOf_lot (l : List Nat) : setOf l = optL (lotOf l) := by
  unfold setOf lotOf
  cases listOf l with
  | none => rfl
  | some ns =>
    dsimp only
    cases lotI ns 7 1 19 <;> rfl
/-- a row's word, whatever its number -/
def rawRow (l : List Nat) : PyData :=
  match TL.par [42] [] l with
  | some (a, b) => match numOf a, pieceOf b with
    | some n, some ns => .tuple [.tuple (ns.map .int), .int n]
    | _, _ => .none
  | none => .none
theorem pieceOf_none {c : Nat} {l : List Nat} (hc : c ∈ l) (h1 : isF c = false) (h2 : c ≠ 44) : pieceOf l = none := by
  unfold pieceOf
  rw [listOf_none hc h1 h2]
/-- the same by split -/
theorem rawRow_spl (l : List Nat) : rawRow l = (match TL.spl [42] 0 [] l with
    | [a, b] => (match numOf a, pieceOf b with | some n, some ns => .tuple [.tuple (ns.map .int), .int n] | _, _ => .none)
    | _ => .none) := by
  unfold rawRow
  rw [spl_par]
  cases e : TL.par [42] [] l with
  | none => rfl
  | some ab =>
    obtain ⟨a, b⟩ := ab
    dsimp only
    rw [spl_par]
    cases e2 : TL.par [42] [] b with
    | none => rfl
    | some ab2 =>
      dsimp only
      have hb := pieceOf_none (par_mem 42 b [] _ e2) (by decide) (by decide)
      rw [hb]
      cases h : TL.spl [42] 0 [] ab2.2 with
      | nil => exact (spl_ne 42 _ _ h).elim
      | cons x y => cases numOf a <;> rfl
theorem tieOf_spl (l : List Nat) : tieOf l = (match TL.spl [45] 0 [] l with
    | [a, b] => (match numOf a, numOf b with | some n, some m => .tuple [.int n, .int m] | _, _ => .none)
    | _ => .none) := by
  unfold tieOf
  rw [spl_par]
  cases e : TL.par [45] [] l with
  | none => rfl
  | some ab =>
    obtain ⟨a, b⟩ := ab
    dsimp only
    rw [spl_par]
    cases e2 : TL.par [45] [] b with
    | none => rfl
    | some ab2 =>
      dsimp only
      have hb := numOf_no (par_mem 45 b [] _ e2) (by decide)
      rw [hb]
      cases h : TL.spl [45] 0 [] ab2.2 with
      | nil => exact (spl_ne 45 _ _ h).elim
      | cons x y => cases numOf a <;> rfl
theorem rowOf_raw (p : Int) (l : List Nat) : rowOf p l = (match rawRow l with
    | .tuple [d, .int n] => if (decide (1 ≤ n) && decide (n < p)) = true then .tuple [d, .int n] else .none
    | _ => .none) := by
  unfold rowOf rawRow
  cases TL.par [42] [] l with
  | none => rfl
  | some ab =>
    dsimp only
    cases numOf ab.1 with
    | none => rfl
    | some n => cases pieceOf ab.2 <;> rfl
end Fd
-- LR1
namespace Fd
open PySem PySem.Spec PyProof.Rows L2
theorem sgB_not (l : List Nat) : (l.map fun c => PyData.str (sign c)).all (fun d => !!sgB isF d) = l.all isF := by
  rw [← all_sg]
  simp only [Bool.not_not]
section
variable {P : Program} {w : World} {K : PySem.W.Frag} {mg : Str → Option Value} {base : Heap}
theorem cd__law_tx_number (T : Tx K mg) : Cd P w K mg base CX0 1 "_law_tx_number" (SpD K (fun ds r => ∃ l : List Nat, ds = [.str (S l)] ∧ r = optI (numOf l) ∧ l.length ≤ 1000000)) := by
  refine cd_of (k := 0) T.d__law_tx_number sc__law_tx_number (fun _ _ _ _ _ _ us hl => match us, hl with | [_], _ => rfl) (SpD.len fun ds r h => by obtain ⟨_, e, _⟩ := h; rw [e]; rfl) ?_
  intro f cdv A outer s H vs Q E hr ⟨ds, r, hds, hf, kk⟩
  obtain ⟨l, e1, e2, hl⟩ := hf
  subst e1 e2
  obtain ⟨v0, e, r0⟩ := rps1 hds
  subst e
  refine ⟨_, (pss_cons (ps_if (PW.pt (pw_or (pt_cmpR op_eq (pv 0) pe_str (nomark _)) (pw_or (pt_cmpR op_gt (pe_callB (kLen K) (by rfl) T.n_len PySem.boot_len (pa_cons (pv 0) pa_nil)) pe_int (nomark _)) (pw_or1 (pt_cmpR (op_ne0 hr.units0) (pe_lc (own := [("sign", 1)]) rfl sc__law_tx_number.nd (pi_str (pv 0)) (blkOk_by (N := N__law_tx_number) (sc := defScope s__law_tx_number) (by decide +kernel)) (fun _ _ _ _ _ => (pg_name (i := 1) sc__law_tx_number.nd rfl (Or.inl rfl))) (fun _ _ _ _ _ => (pts_one (pt_cmpR op_notIn_sign (pv 1) pe_str (by rfl)))) (fun _ _ _ _ _ => (pv 1))) (pe_lst pa_nil) (nomark _))))))
      (pss_one (ps_ret pe_non)) pss_nil)
    (pss_one (ps_ret (pe_ifExp (PW.pt (pw_or (pt_cmpR op_eq (pv 0) pe_str (nomark _)) (pw_or1 (pt_cmpR op_ne (pe_ix ix_str (pv 0) pe_int (fun _ _ => rfl)) pe_str (nomark _))))) (pe_callTy call_int_str (by rfl) T.n_int (by decide +kernel) (pa_cons (pv 0) pa_nil)) pe_non)))), ?_⟩
  have hl2 : (S l).length ≤ 10000000 := by rw [S_len]; omega
  have e0 : decide (S l = Str.ofString "") = decide (l = []) := by rw [l_none]; exact decide_eq_decide.mpr S_eq
  have e1 : decide (((S l).length : Int) > 20) = decide (20 < l.length) := by rw [S_len]; exact decide_eq_decide.mpr (by omega)
  refine if0 (et_or (et_is (et_of (ev_eqS (ev_var rfl r0) ev_str)) e0) fun _ => et_or (et_is (et_of (ev_opB0 (ev_lenS (ev_var rfl r0) hl2) ev_int)) e1) fun _ => et_of (ev_is (f := .bool (!l.all isF)) (ev_no (neg := true) (src_str (ev_var rfl r0)) (by rw [List.length_map]; show l.length ≤ _; omega) (cB := fun d => !sgB isF d) fun d hd H2 x x2 r => by
    obtain ⟨c, _, e⟩ := List.mem_map.mp hd
    subst e
    rw [sgB_sign, ← figs]
    exact et_of (ev_notInSign (ev_var rfl r) ev_str)) (by rw [if_pos rfl]; exact congrArg (fun b => PyData.bool (!b)) (sgB_not l)))) (fun hb H1 x1 => ?_) fun hb H1 x1 => ?_
  · refine ret0 kk x1 ev_non ?_
    have : numB l = false := by
      unfold numB
      by_cases h1 : l = []
      · subst h1; rfl
      · rw [decide_eq_false h1, Bool.false_or] at hb
        by_cases h2 : 20 < l.length
        · rw [decide_eq_false (show ¬ l.length ≤ 20 by omega), Bool.and_false, Bool.false_and]
        · rw [decide_eq_false h2, Bool.false_or, Bool.not_eq_true'] at hb
          rw [hb, Bool.false_and, Bool.and_false]
    unfold numOf
    rw [this]
    rfl
  · rw [Bool.or_eq_false_iff, Bool.or_eq_false_iff, decide_eq_false_iff_not, decide_eq_false_iff_not, Bool.not_eq_false'] at hb
    replace r0 := x1.rp r0
    cases l with
    | nil => exact (hb.1 rfl).elim
    | cons c r =>
      have hlen : (c :: r).length ≤ 20 := by have := hb.2.1; omega
      have hn : numB (c :: r) = !(decide ((c :: r).head? = some 48) && !decide (c :: r = [48])) := by
        unfold numB
        rw [decide_eq_true hlen, hb.2.2, decide_eq_true (show 1 ≤ (c :: r).length by simp)]
        rfl
      have e1 : (sign c = Str.ofString "0") ↔ (c :: r).head? = some 48 := by
        rw [l_zero]
        exact ⟨fun h => by
          have := S_eq.mp (show S [c] = S [48] from h)
          cases this
          rfl, fun h => by cases h; rfl⟩
      have e2 : (S (c :: r) = Str.ofString "0") ↔ (c :: r) = [48] := by
        rw [l_zero]
        exact S_eq
      refine ret0 kk x1 (ev_if (et_or (et_of (ev_eqS (ev_var rfl r0) ev_str)) fun _ => (et_of (ev_neS (ev_ixS (j := 0) (c := c) (ev_var rfl r0) ev_int hl2 (ixN_nat (by simp)) rfl) ev_str))) (fun _ => (ev_intS (ev_var rfl r0) (SX.int_S hb.2.2 (List.cons_ne_nil _ _) (by omega)) (by rw [S_len]; omega))) fun _ => ev_non) ?_
      rw [decide_eq_decide.mpr e1, decide_eq_decide.mpr e2]
      unfold numOf
      rw [hn]
      cases decide ((c :: r).head? = some 48) <;> cases decide (c :: r = [48]) <;> rfl
theorem cd__law_tx_list (T : Tx K mg) : Cd P w K mg base CX0 2 "_law_tx_list" (SpD K (fun ds r => ∃ l : List Nat, ds = [.str (S l)] ∧ r = optL (listOf l) ∧ l.length ≤ 1000000)) := by
  refine cd_of (k := 1) T.d__law_tx_list sc__law_tx_list (fun _ _ _ _ _ _ us hl => match us, hl with | [_], _ => rfl) (SpD.len fun ds r h => by obtain ⟨_, e, _⟩ := h; rw [e]; rfl) ?_
  intro f cdv A outer s H vs Q E hr ⟨ds, r, hds, hf, kk⟩
  obtain ⟨l, e1, e2, hl⟩ := hf
  subst e1 e2
  obtain ⟨v0, e, r0⟩ := rps1 hds
  subst e
  refine ⟨_, (pss_cons (ps_set (i := 1) sc__law_tx_list.nd rfl (Or.inr rfl) (pe_lc (own := [("part", 2)]) rfl sc__law_tx_list.nd (pi_list (pe_split (pv 0) pe_str)) (blkOk_by (N := N__law_tx_list) (sc := defScope s__law_tx_list) (by decide +kernel)) (fun _ _ _ _ _ => (pg_name (i := 2) sc__law_tx_list.nd rfl (Or.inl rfl))) (fun _ _ _ _ _ => pts_nil) (fun _ _ _ _ _ => (pe_d (cd__law_tx_number T) hr (by decide) (pa_cons (pv 2) pa_nil)))))
    (pss_cons (ps_if (PW.pt (pw_or (pt_cmpR (kIn K) pe_non (pv 1) (by first | exact nomark _ | rfl)) (pw_or1 (pt_cmpR (op_ne0 hr.units0) (pe_lc (own := [("at", 3)]) rfl sc__law_tx_list.nd (pi_range2 (by rfl) T.n_range (pa_cons pe_int (pa_cons (pe_callB (kLen K) (by rfl) T.n_len PySem.boot_len (pa_cons (pv 1) pa_nil)) pa_nil))) (blkOk_by (N := N__law_tx_list) (sc := defScope s__law_tx_list) (by decide +kernel)) (fun _ _ _ _ _ => (pg_name (i := 3) sc__law_tx_list.nd rfl (Or.inl rfl))) (fun _ _ _ _ _ => (pts_one (pt_cmpR op_le (pe_ix (ixL K) (pv 1) (pv 3) (fun _ _ => rfl)) (pe_ix (ixL K) (pv 1) (pe_op op_sub (pv 3) pe_int) (fun _ _ => rfl)) (nomark _)))) (fun _ _ _ _ _ => (pv 3))) (pe_lst pa_nil) (nomark _)))))
      (pss_one (ps_ret pe_non)) pss_nil)
    (pss_one (ps_ret (pe_callTy (kTupOf K) (by rfl) T.n_tuple (by decide +kernel) (pa_cons (pv 1) pa_nil)))))), ?_⟩
  have hll := spl_len1 44 l []
  have e1 : ((TL.spl [44] 0 [] l).map fun w => PyData.str (S w)).map (fun d => match d with | .str s => optI (numOf s.cps.toList) | _ => .none) = ((TL.spl [44] 0 [] l).map numOf).map optI := by
    rw [List.map_map, List.map_map]
    rfl
  refine set_then (W := W0) (p := VP.l W0 K _) trivial (e1 ▸ (el_map (src_list (er_of_l (el_words 44 (by decide) l_comma (ev_var rfl r0) ev_str hl))) (by rw [List.length_map]; omega) fun d hd => lcs_name fun H2 x x2 r => by
    obtain ⟨w, hw, e⟩ := List.mem_map.mp hd
    subst e
    have := spl_mem_len 44 l [] w hw
    exact ev_call (ea_cons (ev_var rfl r) ea_nil) ⟨_, rfl, rfl, by rw [List.length_nil] at this; omega⟩)) fun v1 H1 x1 r1 => ?_
  have hsc : ∀ e ∈ ((TL.spl [44] 0 [] l).map numOf).map optI, isSc e = true := fun e he => by
    obtain ⟨o, _, z⟩ := List.mem_map.mp he
    subst z
    exact scI o
  unfold listOf at kk
  cases ha : allSome ((TL.spl [44] 0 [] l).map numOf) with
  | none =>
    rw [ha] at kk
    have hi := numOf_none.mp ha
    refine if0 (et_or (b := false) (et_is (b := true) (et_of (ev_in ev_non (es_of_l (evp_var rfl r1)) rfl hsc)) (by rw [if_neg (by decide), inNone]; exact decide_eq_true hi)) fun h => by cases h) (fun hb H2 x2 => ret0 kk (x1.trans x2) ev_non rfl) fun hb => by cases hb
  | some ns =>
    rw [ha] at kk
    have hs := allSome_some ha
    have e3 : ((TL.spl [44] 0 [] l).map numOf).map optI = ns.map .int := by rw [hs, List.map_map]; rfl
    have hni : none ∉ (TL.spl [44] 0 [] l).map numOf := fun z => by
      have := numOf_none.mpr z
      rw [ha] at this
      cases this
    have hin : (if false = true then !inV (sc .none) ((ns.map PyData.int).map sc) else inV (sc .none) ((ns.map PyData.int).map sc)) = false := by
      rw [if_neg (by decide), ← e3, inNone]
      exact decide_eq_false hni
    rw [e3] at hsc r1
    have hnl : ns.length ≤ 10000000 := by
      have := congrArg List.length hs
      rw [List.length_map, List.length_map] at this
      omega
    refine if0 (b := !rise ns) (et_is (et_or (b := !rise ns) (et_is (b := false) (et_of (ev_in ev_non (es_of_l (evp_var rfl r1)) rfl hsc)) hin) fun _ => et_of (ev_is (ev_no (neg := true) (src_range2 ev_int (ev_len (es_of_l (evp_var rfl r1))) (by rw [List.length_map]; omega)) (by unfold rngD; rw [List.length_map, List.length_range, List.length_map]; omega) (cB := leAt ns) fun d hd H3 x x3 r => ?_) ?_)) rfl) (fun hb H2 x2 => ?_) fun hb H2 x2 => ?_
    · unfold rngD at hd
      obtain ⟨k, hk, e⟩ := List.mem_map.mp hd
      subst e
      rw [List.mem_range, List.length_map] at hk
      have hr := (VP.l W0 K (ns.map .int)).st x3 r1
      have e2 : (((1 : Int) + (k : Nat)) - 1).toNat = ((1 : Int) + (k : Nat)).toNat - 1 := by omega
      show EvT W0 _ _ _ (decide (ns.getD ((1 : Int) + (k : Nat)).toNat 0 ≤ ns.getD (((1 : Int) + (k : Nat)).toNat - 1) 0))
      rw [← e2]
      exact et_of (ev_opB0 (ev_intsL (evp_var rfl hr) (ev_var rfl r) (by omega) (by omega)) (ev_intsL (evp_var rfl hr) (ev_opI0 (ev_var rfl r) ev_int) (by omega) (by omega)))
    · have e3 : ((((ns.map PyData.int).length : Nat) : Int) - 1).toNat = ns.length - 1 := by rw [List.length_map]; omega
      rw [if_pos rfl, e3, rise_ix]
    · rw [Bool.not_eq_true'] at hb
      dsimp only at kk
      rw [if_neg (by rw [hb]; decide)] at kk
      exact ret0 kk (x1.trans x2) ev_non rfl
    · rw [Bool.not_eq_false'] at hb
      dsimp only at kk
      rw [if_pos hb] at kk
      exact ret0 kk (x1.trans x2) (ev_tupOf (evp_var rfl ((VP.l W0 K (ns.map .int)).st x2 r1))) rfl
end
end Fd
-- LR2
namespace Fd
open PySem PySem.Spec PyProof.Rows L2
section
variable {W : Wd} {K : PySem.W.Frag} {σ : L2.St} {H : Hp} {te : TE} {ns : List Int} {z : Int}
theorem ev_lastT (h : Ev W K te σ H (.tuple (ns.map .int))) (hl : ns.getLast? = some z) : Ev W K (tOp (rIxT K) te (tUn (rU fun i => .int (-i)) (tC (.int 1)))) σ H (.int z) := by
  have h1 : 1 ≤ (ns.map PyData.int).length := by
    cases ns with
    | nil => cases hl
    | cons _ _ => simp
  refine ev_ixT h (ev_neg ev_int) (ixN_last h1) ?_
  rw [List.length_map, List.getElem?_map, ← List.getLast?_eq_getElem?, hl]
  rfl
end
theorem two_of {ns : List Int} (h : ns ≠ []) : ∃ a z, ns.head? = some a ∧ ns.getLast? = some z := by
  cases ns with
  | nil => exact (h rfl).elim
  | cons a r => exact ⟨a, _, rfl, List.getLast?_eq_some_getLast (List.cons_ne_nil _ _)⟩
section
variable {P : Program} {w : World} {K : PySem.W.Frag} {mg : Str → Option Value} {base : Heap}
theorem cd__law_tx_piece (T : Tx K mg) : Cd P w K mg base CX0 3 "_law_tx_piece" (SpD K (fun ds r => ∃ l : List Nat, ds = [.str (S l)] ∧ r = optL (pieceOf l) ∧ l.length ≤ 1000000)) := by
  refine cd_of (k := 2) T.d__law_tx_piece sc__law_tx_piece (fun _ _ _ _ _ _ us hl => match us, hl with | [_], _ => rfl) (SpD.len fun ds r h => by obtain ⟨_, e, _⟩ := h; rw [e]; rfl) ?_
  intro f cdv A outer s H vs Q E hr ⟨ds, r, hds, hf, kk⟩
  obtain ⟨l, e1, e2, hl⟩ := hf
  subst e1 e2
  obtain ⟨v0, e, r0⟩ := rps1 hds
  subst e
  refine ⟨_, (pss_cons (ps_set (i := 1) sc__law_tx_piece.nd rfl (Or.inl rfl) (pe_d (cd__law_tx_list T) hr (by decide) (pa_cons (pv 0) pa_nil)))
    (pss_one (ps_ret (pe_ifExp (PW.pt (pw_and (pt_cmpR op_notN (pv 1) pe_non (nomark _)) (pw_and (pt_cmpR op_le (pe_callB (kLen K) (by rfl) T.n_len PySem.boot_len (pa_cons (pv 1) pa_nil)) pe_int (nomark _)) (pw_and1 (pt_cmpR op_le (pe_ix (ixT K) (pv 1) (pe_un un_neg pe_int) (fun _ _ => rfl)) pe_int (nomark _)))))) (pv 1) pe_non)))), ?_⟩
  refine set0 K (ev_call (ea_cons (ev_var rfl r0) ea_nil) ⟨_, rfl, rfl, hl⟩) fun v1 H1 x1 r1 => ?_
  unfold pieceOf at kk
  cases e : listOf l with
  | none =>
    rw [e] at r1 kk
    exact ret0 kk x1 (ev_is (ev_if (b := false) (d := .none) (e := .none) (et_and (b := false) (et_of (ev_notN (ev_var rfl r1) ev_non)) fun h => by cases h) (fun h => ev_var rfl r1) fun _ => ev_non) (if_neg (by decide))) rfl
  | some ns =>
    rw [e] at r1 kk
    obtain ⟨hr, hg, hne⟩ := listOf_rise e
    obtain ⟨a, z, ha, hz⟩ := two_of hne
    have g0 := (hg a (List.mem_of_head? ha)).1
    have hlot := lot_ends (m := 7) (lo := 0) (hi := 19) hr ha hz
    rw [decide_eq_true g0, Bool.true_and] at hlot
    dsimp only at kk
    rw [hlot] at kk
    refine ret0 kk x1 (ev_if (et_and (et_of (ev_notN (ev_var rfl r1) ev_non)) fun _ => (et_and (et_of (ev_opB0 (ev_len (es_of_t (ev_var rfl r1))) ev_int)) fun _ => (et_of (ev_opB0 (ev_lastT (ev_var rfl r1) hz) ev_int)))) (fun _ => (ev_var rfl r1)) fun _ => ev_non) ?_
    have e7 : decide (((ns.map PyData.int).length : Int) ≤ 7) = decide (ns.length ≤ 7) := by
      rw [List.length_map]
      exact decide_eq_decide.mpr (by omega)
    rw [e7]
    show (if (true && (decide (ns.length ≤ 7) && decide (z ≤ 19))) = true then _ else _) = _
    rw [Bool.true_and]
    cases (decide (ns.length ≤ 7) && decide (z ≤ 19)) <;> rfl
theorem cd__law_tx_lot (T : Tx K mg) : Cd P w K mg base CX0 3 "_law_tx_lot" (SpD K (fun ds r => ∃ l : List Nat, ds = [.str (S l)] ∧ r = setOf l ∧ l.length ≤ 1000000)) := by
  refine cd_of (k := 2) T.d__law_tx_lot sc__law_tx_lot (fun _ _ _ _ _ _ us hl => match us, hl with | [_], _ => rfl) (SpD.len fun ds r h => by obtain ⟨_, e, _⟩ := h; rw [e]; rfl) ?_
  intro f cdv A outer s H vs Q E hr ⟨ds, r, hds, hf, kk⟩
  obtain ⟨l, e1, e2, hl⟩ := hf
  subst e1 e2
  obtain ⟨v0, e, r0⟩ := rps1 hds
  subst e
  refine ⟨_, (pss_cons (ps_set (i := 1) sc__law_tx_lot.nd rfl (Or.inl rfl) (pe_d (cd__law_tx_list T) hr (by decide) (pa_cons (pv 0) pa_nil)))
    (pss_one (ps_ret (pe_ifExp (PW.pt (pw_and (pt_cmpR op_notN (pv 1) pe_non (nomark _)) (pw_and (pt_cmpR op_le (pe_callB (kLen K) (by rfl) T.n_len PySem.boot_len (pa_cons (pv 1) pa_nil)) pe_int (nomark _)) (pw_and (pt_cmpR op_ge (pe_ix (ixT K) (pv 1) pe_int (fun _ _ => rfl)) pe_int (nomark _)) (pw_and1 (pt_cmpR op_le (pe_ix (ixT K) (pv 1) (pe_un un_neg pe_int) (fun _ _ => rfl)) pe_int (nomark _))))))) (pv 1) pe_non)))), ?_⟩
  refine set0 K (ev_call (ea_cons (ev_var rfl r0) ea_nil) ⟨_, rfl, rfl, hl⟩) fun v1 H1 x1 r1 => ?_
  unfold setOf at kk
  cases e : listOf l with
  | none =>
    rw [e] at r1 kk
    exact ret0 kk x1 (ev_is (ev_if (b := false) (d := .none) (e := .none) (et_and (b := false) (et_of (ev_notN (ev_var rfl r1) ev_non)) fun h => by cases h) (fun h => ev_var rfl r1) fun _ => ev_non) (if_neg (by decide))) rfl
  | some ns =>
    rw [e] at r1 kk
    obtain ⟨hr, hg, hne⟩ := listOf_rise e
    obtain ⟨a, z, ha, hz⟩ := two_of hne
    have hlot := lot_ends (m := 7) (lo := 1) (hi := 19) hr ha hz
    dsimp only at kk
    rw [hlot] at kk
    have h0 : (ns.map PyData.int)[0]? = some (.int a) := by
      cases ns with
      | nil => cases ha
      | cons b r => cases ha; rfl
    refine ret0 kk x1 (ev_if (et_and (et_of (ev_notN (ev_var rfl r1) ev_non)) fun _ => (et_and (et_of (ev_opB0 (ev_len (es_of_t (ev_var rfl r1))) ev_int)) fun _ => (et_and (et_of (ev_opB0 (ev_at (j := 0) (ev_var rfl r1) h0) ev_int)) fun _ => (et_of (ev_opB0 (ev_lastT (ev_var rfl r1) hz) ev_int))))) (fun _ => (ev_var rfl r1)) fun _ => ev_non) ?_
    have e7 : decide (((ns.map PyData.int).length : Int) ≤ 7) = decide (ns.length ≤ 7) := by
      rw [List.length_map]
      exact decide_eq_decide.mpr (by omega)
    rw [e7]
    show (if (true && (decide (ns.length ≤ 7) && (decide (a ≥ 1) && decide (z ≤ 19)))) = true then _ else _) = (if (decide (ns.length ≤ 7) && (decide (1 ≤ a) && decide (z ≤ 19))) = true then _ else _)
    rw [Bool.true_and]
    have : decide (a ≥ 1) = decide (1 ≤ a) := rfl
    rw [this]
    cases (decide (ns.length ≤ 7) && (decide (1 ≤ a) && decide (z ≤ 19))) <;> rfl
/-- a number in bounds -/
def withinOf (lo hi : Int) (l : List Nat) : PyData :=
  match numOf l with
  | some n => if (decide (lo ≤ n) && decide (n ≤ hi)) = true then .int n else .none
  | none => .none
theorem cd__law_tx_within (T : Tx K mg) : Cd P w K mg base CX0 2 "_law_tx_within" (SpD K (fun ds r => ∃ (l : List Nat) (lo hi : Int), ds = [.str (S l), .int lo, .int hi] ∧ r = withinOf lo hi l ∧ l.length ≤ 1000000)) := by
  refine cd_of (k := 1) T.d__law_tx_within sc__law_tx_within (fun _ _ _ _ _ _ us hl => match us, hl with | [_, _, _], _ => rfl) (SpD.len fun ds r h => by obtain ⟨_, _, _, e, _⟩ := h; rw [e]; rfl) ?_
  intro f cdv A outer s H vs Q E hr ⟨ds, r, hds, hf, kk⟩
  obtain ⟨l, lo, hi, e1, e2, hl⟩ := hf
  subst e1 e2
  obtain ⟨v0, v1, v2, e, r0, r1, r2⟩ := rps3 hds
  subst e
  refine ⟨_, (pss_cons (ps_set (i := 3) sc__law_tx_within.nd rfl (Or.inl rfl) (pe_d (cd__law_tx_number T) hr (by decide) (pa_cons (pv 0) pa_nil)))
    (pss_one (ps_ret (pe_ifExp (PW.pt (pw_and (pt_cmpR op_notN (pv 3) pe_non (nomark _)) (pw_and1 (pt_chain op_le op_le (pv 1) (pv 3) (pv 2))))) (pv 3) pe_non)))), ?_⟩
  refine set0 K (ev_call (ea_cons (ev_var rfl r0) ea_nil) ⟨_, rfl, rfl, hl⟩) fun v3 H1 x1 r3 => ?_
  replace r1 := x1.rp r1
  replace r2 := x1.rp r2
  unfold withinOf at kk
  cases e : numOf l with
  | none =>
    rw [e] at r3 kk
    exact ret0 kk x1 (ev_is (ev_if (b := false) (d := .none) (e := .none) (et_and (b := false) (et_of (ev_notN (ev_var rfl r3) ev_non)) fun h => by cases h) (fun h => ev_var rfl r3) fun _ => ev_non) (if_neg (by decide))) rfl
  | some n =>
    rw [e] at r3 kk
    refine ret0 kk x1 (ev_if (et_and (et_of (ev_notN (ev_var rfl r3) ev_non)) fun _ => (et_of (ev_chain (ev_var rfl r1) (ev_var rfl r3) rv_B0 (fun _ => (ev_var rfl r2)) rv_B0))) (fun _ => (ev_var rfl r3)) fun _ => ev_non) ?_
    show (if (true && (decide (lo ≤ n) && decide (n ≤ hi))) = true then _ else _) = _
    rw [Bool.true_and]
    rfl
theorem cd__law_tx_row (T : Tx K mg) : Cd P w K mg base CX0 4 "_law_tx_row" (SpD K (fun ds r => ∃ l : List Nat, ds = [.str (S l)] ∧ r = rawRow l ∧ l.length ≤ 1000000)) := by
  refine cd_of (k := 3) T.d__law_tx_row sc__law_tx_row (fun _ _ _ _ _ _ us hl => match us, hl with | [_], _ => rfl) (SpD.len fun ds r h => by obtain ⟨_, e, _⟩ := h; rw [e]; rfl) ?_
  intro f cdv A outer s H vs Q E hr ⟨ds, r, hds, hf, kk⟩
  obtain ⟨l, e1, e2, hl⟩ := hf
  subst e1 e2
  obtain ⟨v0, e, r0⟩ := rps1 hds
  subst e
  refine ⟨_, (pss_cons (ps_set (i := 1) sc__law_tx_row.nd rfl (Or.inl rfl) (pe_split (pv 0) pe_str))
    (pss_cons (ps_if (PW.pt (pw_or (pt_cmpR op_ne (pe_callB (kLen K) (by rfl) T.n_len PySem.boot_len (pa_cons (pv 1) pa_nil)) pe_int (nomark _)) (pw_or (pt_cmpR op_isN (pe_d (cd__law_tx_number T) hr (by decide) (pa_cons (pe_ix (ixL K) (pv 1) pe_int (fun _ _ => rfl)) pa_nil)) pe_non (nomark _)) (pw_or1 (pt_cmpR op_isN (pe_d (cd__law_tx_piece T) hr (by decide) (pa_cons (pe_ix (ixL K) (pv 1) pe_int (fun _ _ => rfl)) pa_nil)) pe_non (nomark _))))))
      (pss_one (ps_ret pe_non)) pss_nil)
    (pss_one (ps_ret (pe_tup (pa_cons (pe_d (cd__law_tx_piece T) hr (by decide) (pa_cons (pe_ix (ixL K) (pv 1) pe_int (fun _ _ => rfl)) pa_nil)) (pa_cons (pe_d (cd__law_tx_number T) hr (by decide) (pa_cons (pe_ix (ixL K) (pv 1) pe_int (fun _ _ => rfl)) pa_nil)) pa_nil))))))), ?_⟩
  have hsm := spl_mem_len 42 l []
  have hsl := spl_len1 42 l []
  refine set_then (W := W0) (p := VP.l W0 K _) trivial (el_words 42 (by decide) l_star (ev_var rfl r0) ev_str hl) fun v1 H1 x1 r1 => ?_
  rw [rawRow_spl] at kk
  generalize TL.spl [42] 0 [] l = parts at kk r1 hsm hsl
  match parts with
  | [a, b] =>
    have la : a.length ≤ 1000000 := by have := hsm a (by simp); rw [List.length_nil] at this; omega
    have lb : b.length ≤ 1000000 := by have := hsm b (by simp); rw [List.length_nil] at this; omega
    have pa : ∀ {H2}, Wx W0 H1 H2 → Ev W0 K (tOp (rIx K) (tVar 1) (tC (.int 0))) [some v0, some v1] H2 (.str (S a)) := fun x => ev_ixL (j := 0) (es_of_l (evp_var rfl ((VP.l W0 K _).st x r1))) ev_int (ixN_nat (j := 0) (by simp)) rfl
    have pb : ∀ {H2}, Wx W0 H1 H2 → Ev W0 K (tOp (rIx K) (tVar 1) (tC (.int 1))) [some v0, some v1] H2 (.str (S b)) := fun x => ev_ixL (j := 1) (es_of_l (evp_var rfl ((VP.l W0 K _).st x r1))) ev_int (ixN_nat (j := 1) (by simp)) rfl
    refine if0 (et_or (et_of (ev_neI (ev_len (es_of_l (evp_var rfl r1))) ev_int)) fun _ => (et_or (et_of (ev_isN (ev_call (ea_cons (pa x0) ea_nil) ⟨_, rfl, rfl, la⟩) ev_non)) fun _ => (et_of (ev_isN (ev_call (ea_cons (pb x0) ea_nil) ⟨_, rfl, rfl, lb⟩) ev_non)))) (fun hb H2 x2 => ?_) fun hb H2 x2 => ?_
    · have hb' : (isNone (optI (numOf a)) || isNone (optL (pieceOf b))) = true := hb
      refine ret0 kk (x1.trans x2) ev_non ?_
      dsimp only
      cases h1 : numOf a with
      | none => rfl
      | some n =>
        cases h2 : pieceOf b with
        | none => rfl
        | some ns => rw [h1, h2] at hb'; cases hb'
    · have hb' : (isNone (optI (numOf a)) || isNone (optL (pieceOf b))) = false := hb
      refine ret0 kk (x1.trans x2) (ev_tup (ea_cons (ev_call (ea_cons (pb x2) ea_nil) ⟨_, rfl, rfl, lb⟩) (ea_cons (ev_call (ea_cons (pa x2) ea_nil) ⟨_, rfl, rfl, la⟩) ea_nil)) (by simp)) ?_
      dsimp only
      cases h1 : numOf a with
      | none => rw [h1] at hb'; cases hb'
      | some n =>
        cases h2 : pieceOf b with
        | none => rw [h1, h2] at hb'; cases hb'
        | some ns => rfl
  | [] => exact if0 (et_or (b := false) (et_of (ev_neI (ev_len (es_of_l (evp_var rfl r1))) ev_int)) fun h => by cases h) (fun hb H2 x2 => ret0 kk (x1.trans x2) ev_non rfl) fun hb => by cases hb
  | [_] => exact if0 (et_or (b := false) (et_of (ev_neI (ev_len (es_of_l (evp_var rfl r1))) ev_int)) fun h => by cases h) (fun hb H2 x2 => ret0 kk (x1.trans x2) ev_non rfl) fun hb => by cases hb
  | a :: b :: c :: m =>
    have hd : decide (((((a :: b :: c :: m).map fun w => PyData.str (S w)).length : Nat) : Int) = 2) = false := decide_eq_false fun z => by
      rw [List.length_map, List.length_cons, List.length_cons, List.length_cons] at z
      omega
    exact if0 (et_or (b := false) (et_of (ev_neI (ev_len (es_of_l (evp_var rfl r1))) ev_int)) fun h => by rw [hd] at h; cases h) (fun hb H2 x2 => ret0 kk (x1.trans x2) ev_non rfl) fun hb => by rw [hd] at hb; cases hb
theorem cd__law_tx_tie (T : Tx K mg) : Cd P w K mg base CX0 2 "_law_tx_tie" (SpD K (fun ds r => ∃ l : List Nat, ds = [.str (S l)] ∧ r = tieOf l ∧ l.length ≤ 1000000)) := by
  refine cd_of (k := 1) T.d__law_tx_tie sc__law_tx_tie (fun _ _ _ _ _ _ us hl => match us, hl with | [_], _ => rfl) (SpD.len fun ds r h => by obtain ⟨_, e, _⟩ := h; rw [e]; rfl) ?_
  intro f cdv A outer s H vs Q E hr ⟨ds, r, hds, hf, kk⟩
  obtain ⟨l, e1, e2, hl⟩ := hf
  subst e1 e2
  obtain ⟨v0, e, r0⟩ := rps1 hds
  subst e
  refine ⟨_, (pss_cons (ps_setLc (i := 1) (own := [("part", 2)]) rfl sc__law_tx_tie.nd rfl rfl (sw_true rfl rfl rfl (by decide +kernel)) (pi_list (pe_split (pv 0) pe_str)) (blkOk_by (N := N__law_tx_tie) (sc := defScope s__law_tx_tie) (by decide +kernel)) (fun _ _ _ _ _ => (pg_name (i := 2) sc__law_tx_tie.nd rfl (Or.inl rfl))) (fun _ _ _ _ _ => pts_nil) (fun _ _ _ _ _ => (pe_d (cd__law_tx_number T) hr (by decide) (pa_cons (pv 2) pa_nil))))
    (pss_one (ps_ret (pe_ifExp (PW.pt (pw_and (pt_cmpR op_eq (pe_callB (kLen K) (by rfl) T.n_len PySem.boot_len (pa_cons (pv 1) pa_nil)) pe_int (nomark _)) (pw_and1 (pt_cmpR (kNotIn K) pe_non (pv 1) (by first | exact nomark _ | rfl))))) (pe_callTy (kTupOf K) (by rfl) T.n_tuple (by decide +kernel) (pa_cons (pv 1) pa_nil)) pe_non)))), ?_⟩
  have hsl := spl_len1 45 l []
  have e1 : ((TL.spl [45] 0 [] l).map fun w => PyData.str (S w)).map (fun d => match d with | .str s => optI (numOf s.cps.toList) | _ => .none) = ((TL.spl [45] 0 [] l).map numOf).map optI := by
    rw [List.map_map, List.map_map]
    rfl
  refine set_then (W := W0) (p := VP.l W0 K _) trivial (e1 ▸ (el_map (src_list (er_of_l (el_words 45 (by decide) l_dash (ev_var rfl r0) ev_str hl))) (by rw [List.length_map]; omega) fun d hd => lcs_name fun H2 x x2 r => by
    obtain ⟨w, hw, e⟩ := List.mem_map.mp hd
    subst e
    have := spl_mem_len 45 l [] w hw
    exact ev_call (ea_cons (ev_var rfl r) ea_nil) ⟨_, rfl, rfl, by rw [List.length_nil] at this; omega⟩)) fun v1 H1 x1 r1 => ?_
  have hsc : ∀ e ∈ ((TL.spl [45] 0 [] l).map numOf).map optI, isSc e = true := fun e he => by
    obtain ⟨o, _, z⟩ := List.mem_map.mp he
    subst z
    exact scI o
  rw [tieOf_spl] at kk
  generalize TL.spl [45] 0 [] l = parts at kk r1 hsl hsc
  refine ret0 kk x1 (ev_if (et_and (et_of (ev_eqI (ev_len (es_of_l (evp_var rfl r1))) ev_int)) fun _ => et_is (b := !decide (none ∈ parts.map numOf)) (et_of (ev_in (neg := true) ev_non (es_of_l (evp_var rfl r1)) rfl hsc)) (by rw [if_pos rfl, inNone])) (fun _ => (ev_tupOf (evp_var rfl r1))) fun _ => ev_non) ?_
  match parts with
  | [a, b] =>
    dsimp only
    cases h1 : numOf a with
    | none => simp [h1]
    | some n =>
      cases h2 : numOf b with
      | none => simp [h1, h2]
      | some m => simp [h1, h2, optI]
  | [] => rfl
  | [_] => rfl
  | a :: b :: c :: m =>
    have hd : decide ((((((a :: b :: c :: m).map numOf).map optI).length : Nat) : Int) = 2) = false := decide_eq_false fun z => by
      rw [List.length_map, List.length_map, List.length_cons, List.length_cons, List.length_cons] at z
      omega
    rw [hd, Bool.false_and, if_neg (by decide)]
end
end Fd
-- LT1
namespace Fd
open PySem PySem.Spec PyProof.Rows L2
section
variable {W : Wd} {K : PySem.W.Frag} {σ : L2.St} {H : Hp} {ta tb te : TE} {ds es : List PyData}
theorem el_cat (ha : EvL W K ta σ H ds) (hb : EvL W K tb σ H es) (hl : ds.length + es.length ≤ 10000000) : EvL W K (tOp rCat ta tb) σ H (ds ++ es) :=
  evp_op ha hb fun x y H jH ⟨a, xs, e, h1, n1, h2⟩ ⟨b, ys, e', h1', n1', h2'⟩ Q k =>
    ⟨a, b, xs, ys, e, e', h1, h1', by rw [h2.len, h2'.len]; exact sz_of hl, fun p hp => k _ _ (Wx.new jH hp) ⟨p, _, rfl, upd_same, Wx.nM jH hp, (Wx.new jH hp).rps (h2.app h2')⟩⟩
theorem ev_addW {a b : List Nat} {B : Str} (e : B = S b) (ha : Ev W K ta σ H (.str (S a))) (hb : Ev W K tb σ H (.str B)) (hl : a.length + b.length ≤ 10000000) : Ev W K (tOp (fun x y H Q => ∃ i j, x = .str i ∧ y = .str j ∧ i.length + j.length ≤ sizeLine ∧ Q (.str (i ++ j)) H) ta tb) σ H (.str (S (a ++ b))) := by
  subst e
  have h := ev_addS ha hb (by rw [S_len, S_len]; exact hl)
  rw [SX.S_cat] at h
  exact h
end
/-- what has a text: a paper, or one of some more parts -/
def txOk (d : PyData) : Prop := (∃ (s : Int) (ns : List Int), d = .tuple [.str tCrowd, .int s, .tuple (ns.map .int)] ∧ gr s ∧ (∀ n ∈ ns, gr n) ∧ ns.length ≤ 90) ∨
  ∃ (w : Str) (ds : List PyData), d = .tuple [.str w, .tuple ds] ∧ ¬ w = tCrowd ∧ (∀ d ∈ ds, partB w d = true) ∧ ds.length ≤ 3500 ∧ w.length ≤ 7
theorem txOk_of {d : PyData} (h : paperB d = true) : txOk d := by
  rcases paper_cases h with ⟨s, ns, e, h1, h2, h3⟩ | ⟨w, ds, e, hw, h⟩
  · have hg := lotI_gr h3 (by decide) (by decide)
    exact .inl ⟨s, ns, e, ⟨h1, by unfold HI; omega⟩, hg.1, by have := hg.2.1; omega⟩
  · have hr := rest_part h
    exact .inr ⟨w, ds, e, hw, hr.1, by have := hr.2.1; omega, hr.2.2⟩
section
variable {P : Program} {w : World} {K : PySem.W.Frag} {mg : Str → Option Value} {base : Heap}
theorem cd__law_tx_of (T : Tx K mg) : Cd P w K mg base CX0 1 "_law_tx_of" (SpD K (fun ds r => ∃ ns : List Int, ds = [.tuple (ns.map .int)] ∧ r = .str (S (listW ns)) ∧ (∀ n ∈ ns, gr n) ∧ ns.length ≤ 4000)) := by
  refine cd_of (k := 0) T.d__law_tx_of sc__law_tx_of (fun _ _ _ _ _ _ us hl => match us, hl with | [_], _ => rfl) (SpD.len fun ds r h => by obtain ⟨_, e, _⟩ := h; rw [e]; rfl) ?_
  intro f cdv A outer s H vs Q E hr ⟨ds, r, hds, hf, kk⟩
  obtain ⟨ns, e1, e2, hg, hl⟩ := hf
  subst e1 e2
  obtain ⟨v0, e, r0⟩ := rps1 hds
  subst e
  refine ⟨_, (pss_one (ps_ret (kJoin K pe_str (pe_lc (own := [("n", 1)]) rfl sc__law_tx_of.nd (pi_tup (pv 0)) (blkOk_by (N := N__law_tx_of) (sc := defScope s__law_tx_of) (by decide +kernel)) (fun _ _ _ _ _ => (pg_name (i := 1) sc__law_tx_of.nd rfl (Or.inl rfl))) (fun _ _ _ _ _ => pts_nil) (fun _ _ _ _ _ => (pe_callTy call_str_int (by rfl) T.n_str (by decide +kernel) (pa_cons (pv 1) pa_nil))))))), ?_⟩
  have e : (ns.map PyData.int).map (fun d => match d with | .int n => PyData.str (S (numW n)) | _ => .none) = (ns.map numW).map fun w => .str (S w) := by
    rw [List.map_map, List.map_map]
    rfl
  refine ret0 kk x0 (ev_joinW (c := 44) (k := 20) (ws := ns.map numW) l_comma ev_str (es_of_l (e ▸ (el_map (src_tup (ev_var rfl r0)) (by rw [List.length_map]; omega) fun d hd => lcs_name fun H2 x x2 r => by
    obtain ⟨n, hn, e⟩ := List.mem_map.mp hd
    subst e
    exact ev_strN (ev_var rfl r) (hg n hn)))) (fun w hw => ?_) ?_) rfl
  · obtain ⟨n, hn, e⟩ := List.mem_map.mp hw
    rw [← e]
    exact numW_len (hg n hn)
  · rw [List.length_map]
    omega
theorem rowWd_eq (ns : List Int) (n : Int) : rowWd (.tuple [.tuple (ns.map .int), .int n]) = numW n ++ [42] ++ listW ns := by
  show rowW ((intsOf (ns.map .int)).getD []) n = _
  rw [tup_ints]
  rfl
theorem rowWd_len {d : PyData} (h : rowB 96 d = true) : (rowWd d).length ≤ 2000 := by
  have := wordFor_len (w := tFill) (d := d) (by unfold partB; rw [if_pos (by rw [decide_eq_true rfl]; rfl)]; exact h)
  unfold wordFor at this
  rw [if_pos (by rw [decide_eq_true rfl]; rfl)] at this
  exact this
theorem cd__law_tx_chain (T : Tx K mg) : Cd P w K mg base CX0 2 "_law_tx_chain" (SpD K (fun ds r => ∃ (w : Str) (rs : List PyData), ds = [.str w, .tuple rs] ∧ r = .str (S (TL.joinL [32] (w.cps.toList :: rs.map rowWd))) ∧ (∀ d ∈ rs, rowB 96 d = true) ∧ rs.length ≤ 3500 ∧ w.length ≤ 7)) := by
  refine cd_of (k := 1) T.d__law_tx_chain sc__law_tx_chain (fun _ _ _ _ _ _ us hl => match us, hl with | [_, _], _ => rfl) (SpD.len fun ds r h => by obtain ⟨_, _, e, _⟩ := h; rw [e]; rfl) ?_
  intro f cdv A outer s H vs Q E hr ⟨ds, r, hds, hf, kk⟩
  obtain ⟨w, rs, e1, e2, hg, hl, hw⟩ := hf
  subst e1 e2
  obtain ⟨v0, v1, e, r0, r1⟩ := rps2 hds
  subst e
  refine ⟨_, (pss_one (ps_ret (kJoin K pe_str (pe_op op_cat (pe_lst (pa_cons (pv 0) pa_nil)) (pe_lc (own := [("piece", 2), ("a", 3)]) (g := (gTup K 2 (gCons (gName 2) (gCons (gName 3) gNil)))) (tt := tYes) rfl sc__law_tx_chain.nd (pi_tup (pv 1)) (blkOk_by (N := N__law_tx_chain) (sc := defScope s__law_tx_chain) (by decide +kernel)) (fun _ _ _ _ _ => (pg_tup rfl (pgs_cons (pg_name (i := 2) sc__law_tx_chain.nd rfl (Or.inl rfl)) (pgs_cons (pg_name (i := 3) sc__law_tx_chain.nd rfl (Or.inl rfl)) pgs_nil)))) (fun _ _ _ _ _ => pts_nil) (fun _ _ _ _ _ => (pe_op op_add_str (pe_op op_add_str (pe_callTy call_str_int (by rfl) T.n_str (by decide +kernel) (pa_cons (pv 3) pa_nil)) pe_str) (pe_d (cd__law_tx_of T) hr (by decide) (pa_cons (pv 2) pa_nil))))))))), ?_⟩
  have hwl : w.cps.toList.length ≤ 7 := by rw [← S_tl w, S_len] at hw; exact hw
  have e : [PyData.str w] ++ rs.map (fun d => PyData.str (S (rowWd d))) = (w.cps.toList :: rs.map rowWd).map fun w => .str (S w) := by
    rw [List.map_cons, List.map_map, S_tl]
    rfl
  refine ret0 kk x0 (ev_joinW (c := 32) (k := 2000) (ws := w.cps.toList :: rs.map rowWd) l_space ev_str (es_of_l (e ▸ (el_cat (el_lst (ea_cons (ev_var rfl r0) ea_nil)) (el_map (src_tup (ev_var rfl r1)) (by omega) fun d hd => ?_) (by rw [List.length_map]; simp only [List.length_cons, List.length_nil]; omega)))) (fun w hw => ?_) ?_) rfl
  · obtain ⟨ns, n, e, h1, h2, h3⟩ := rowB_some (hg d hd)
    subst e
    have hgr := lotI_gr h1 (by decide) (by decide)
    have gn : gr n := ⟨by omega, by unfold HI; omega⟩
    have l1 := numW_len gn
    have l2 := listW_len hgr.1
    rw [rowWd_eq]
    refine lcs_pair fun H2 x y x2 ra rb => ev_addW rfl (ev_addW l_star (ev_strN (ev_var rfl rb) gn) ev_str (by simp only [List.length_cons, List.length_nil]; omega)) (ev_call (ea_cons (ev_var rfl ra) ea_nil) ⟨ns, rfl, rfl, hgr.1, by omega⟩) (by rw [List.length_append]; simp only [List.length_cons, List.length_nil]; omega)
  · rcases List.mem_cons.mp hw with z | z
    · rw [z]; omega
    · obtain ⟨d, hd, e⟩ := List.mem_map.mp z
      rw [← e]
      exact rowWd_len (hg d hd)
  · rw [List.length_cons, List.length_map]
    omega
theorem cd__law_tx_paper (T : Tx K mg) : Cd P w K mg base CX0 3 "_law_tx_paper" (SpD K (fun ds r => ∃ d, ds = [d] ∧ r = .str (S (paperW d)) ∧ txOk d)) := by
  refine cd_of (k := 2) T.d__law_tx_paper sc__law_tx_paper (fun _ _ _ _ _ _ us hl => match us, hl with | [_], _ => rfl) (SpD.len fun ds r h => by obtain ⟨_, e, _⟩ := h; rw [e]; rfl) ?_
  intro f cdv A outer s H vs Q E hr ⟨ds, r, hds, hf, kk⟩
  obtain ⟨d, e1, e2, hp⟩ := hf
  subst e1 e2
  obtain ⟨v0, e, r0⟩ := rps1 hds
  subst e
  refine ⟨_, (pss_cons (ps_if (pt_cmpR (kIn K) (pe_ix (ixT K) (pv 0) pe_int (fun _ _ => rfl)) (pe_lst (pa_cons pe_str (pa_cons pe_str pa_nil))) (by first | exact nomark _ | rfl))
      (pss_one (ps_ret (pe_d (cd__law_tx_chain T) hr (by decide) (pa_cons (pe_ix (ixT K) (pv 0) pe_int (fun _ _ => rfl)) (pa_cons (pe_ix (ixT K) (pv 0) pe_int (fun _ _ => rfl)) pa_nil))))) pss_nil)
    (pss_cons (ps_if (pt_cmpR op_eq (pe_ix (ixT K) (pv 0) pe_int (fun _ _ => rfl)) pe_str (nomark _))
      (pss_one (ps_ret (kJoin K pe_str (pe_lst (pa_cons pe_str (pa_cons (pe_callTy (CallR.or call_str_int SkE.call_str_str) (by rfl) T.n_str (by decide +kernel) (pa_cons (pe_ix (ixT K) (pv 0) pe_int (fun _ _ => rfl)) pa_nil)) (pa_cons (pe_d (cd__law_tx_of T) hr (by decide) (pa_cons (pe_ix (ixT K) (pv 0) pe_int (fun _ _ => rfl)) pa_nil)) pa_nil))))))) pss_nil)
    (pss_cons (ps_if (pt_cmpR op_eq (pe_ix (ixT K) (pv 0) pe_int (fun _ _ => rfl)) pe_str (nomark _))
      (pss_one (ps_ret (kJoin K pe_str (pe_op op_cat (pe_lst (pa_cons pe_str pa_nil)) (pe_lc (own := [("i", 1), ("j", 2)]) (g := (gTup K 2 (gCons (gName 1) (gCons (gName 2) gNil)))) (tt := tYes) rfl sc__law_tx_paper.nd (pi_tup (pe_ix (ixT K) (pv 0) pe_int (fun _ _ => rfl))) (blkOk_by (N := N__law_tx_paper) (sc := defScope s__law_tx_paper) (by decide +kernel)) (fun _ _ _ _ _ => (pg_tup rfl (pgs_cons (pg_name (i := 1) sc__law_tx_paper.nd rfl (Or.inl rfl)) (pgs_cons (pg_name (i := 2) sc__law_tx_paper.nd rfl (Or.inl rfl)) pgs_nil)))) (fun _ _ _ _ _ => pts_nil) (fun _ _ _ _ _ => (pe_op op_add_str (pe_op op_add_str (pe_callTy call_str_int (by rfl) T.n_str (by decide +kernel) (pa_cons (pv 1) pa_nil)) pe_str) (pe_callTy call_str_int (by rfl) T.n_str (by decide +kernel) (pa_cons (pv 2) pa_nil))))))))) pss_nil)
    (pss_one (ps_ret (kJoin K pe_str (pe_op op_cat (pe_lst (pa_cons (pe_ix (ixT K) (pv 0) pe_int (fun _ _ => rfl)) pa_nil)) (pe_lc (own := [("part", 3)]) rfl sc__law_tx_paper.nd (pi_tup (pe_ix (ixT K) (pv 0) pe_int (fun _ _ => rfl))) (blkOk_by (N := N__law_tx_paper) (sc := defScope s__law_tx_paper) (by decide +kernel)) (fun _ _ _ _ _ => (pg_name (i := 3) sc__law_tx_paper.nd rfl (Or.inl rfl))) (fun _ _ _ _ _ => pts_nil) (fun _ _ _ _ _ => (pe_ifExp (pt_cmpR op_eq (pe_ix (ixT K) (pv 0) pe_int (fun _ _ => rfl)) pe_str (nomark _)) (pe_d (cd__law_tx_of T) hr (by decide) (pa_cons (pv 3) pa_nil)) (pe_callTy (CallR.or call_str_int SkE.call_str_str) (by rfl) T.n_str (by decide +kernel) (pa_cons (pv 3) pa_nil)))))))))))), ?_⟩
  rcases hp with ⟨s, ns, e, gs, hg⟩ | ⟨w, ds, e, hw, hr⟩
  · subst e
    have l1 := listW_len hg.1
    have l2 := numW_len gs
    refine if0 (et_of (ev_inStr [tFill, tSight] (ev_at (j := 0) (ev_var rfl r0) rfl) (es_of_l (el_lst (ea_cons ev_str (ea_cons ev_str ea_nil)))))) (fun hb => absurd (of_decide_eq_true hb) (by decide +kernel)) fun _ H1 x1 => ?_
    replace r0 := x1.rp r0
    refine if0 (et_of (ev_eqS (ev_at (j := 0) (ev_var rfl r0) rfl) ev_str)) (fun hb2 H3 x3 => ?_) fun hb2 => absurd rfl (of_decide_eq_false hb2)
    replace r0 := x3.rp r0
    have e : [PyData.str tCrowd, .str (S (numW s)), .str (S (listW ns))] = [tCrowd.cps.toList, numW s, listW ns].map fun w => .str (S w) := by
      rw [List.map_cons, S_tl]
      rfl
    refine ret0 kk (x1.trans x3) (ev_joinW (c := 32) (k := 2000) (ws := [tCrowd.cps.toList, numW s, listW ns]) l_space ev_str (es_of_l (e ▸ (el_lst (ea_cons ev_str (ea_cons (ev_strNo (ev_at (j := 1) (ev_var rfl r0) rfl) gs) (ea_cons (ev_call (ea_cons (ev_at (j := 2) (ev_var rfl r0) rfl) ea_nil) ⟨ns, rfl, rfl, hg.1, by omega⟩) ea_nil)))))) (fun w hw => ?_) (by simp)) ?_
    · simp only [List.mem_cons, List.not_mem_nil, or_false] at hw
      rcases hw with e | e | e
      · rw [e]; decide +kernel
      · rw [e]; omega
      · rw [e]; omega
    · rw [paperW_crowd]
  · subst e
    have hl := hr.2.1
    have hwl : w.cps.toList.length ≤ 7 := by have := hr.2.2; rw [← S_tl w, S_len] at this; exact this
    rw [paperW_rest hw] at kk
    refine if0 (et_of (ev_inStr [tFill, tSight] (ev_at (j := 0) (ev_var rfl r0) rfl) (es_of_l (el_lst (ea_cons ev_str (ea_cons ev_str ea_nil)))))) (fun hb H1 x1 => ?_) fun hb H1 x1 => ?_
    · have h1 : (decide (w = tFill) || decide (w = tSight)) = true := by
        rw [decide_eq_true_eq] at hb
        simpa using hb
      have ef : wordFor w = rowWd := by funext d; unfold wordFor; rw [if_pos h1]
      rw [ef] at kk
      refine ret0 kk x1 (ev_call (ea_cons (ev_at (j := 0) (ev_var rfl (x1.rp r0)) rfl) (ea_cons (ev_at (j := 1) (ev_var rfl (x1.rp r0)) rfl) ea_nil)) ⟨w, ds, rfl, rfl, fun d hd => ?_, hl, hr.2.2⟩) rfl
      have := hr.1 d hd
      unfold partB at this
      rw [if_pos h1] at this
      exact this
    · have h1 : ¬ (decide (w = tFill) || decide (w = tSight)) = true := by
        rw [decide_eq_false_iff_not] at hb
        simpa using hb
      replace r0 := x1.rp r0
      refine if0 (et_of (ev_eqS (ev_at (j := 0) (ev_var rfl r0) rfl) ev_str)) (fun hb2 => absurd (of_decide_eq_true hb2) hw) fun _ H2 x2 => ?_
      replace r0 := x2.rp r0
      have hwlen : ∀ x ∈ w.cps.toList :: ds.map (wordFor w), x.length ≤ 2000 := fun x hx => by
        rcases List.mem_cons.mp hx with z | z
        · rw [z]; omega
        · obtain ⟨d, hd, e⟩ := List.mem_map.mp z
          rw [← e]
          exact wordFor_len (hr.1 d hd)
      have hjl : (2000 + 1) * (w.cps.toList :: ds.map (wordFor w)).length ≤ 10000000 := by
        rw [List.length_cons, List.length_map]
        omega
      have hcl : [PyData.str w].length + (ds.map (fun d => PyData.str (S (wordFor w d)))).length ≤ 10000000 := by
        rw [List.length_map]
        simp only [List.length_cons, List.length_nil]
        omega
      have e : [PyData.str w] ++ ds.map (fun d => PyData.str (S (wordFor w d))) = (w.cps.toList :: ds.map (wordFor w)).map fun w => .str (S w) := by
        rw [List.map_cons, List.map_map, S_tl]
        rfl
      refine if0 (et_of (ev_eqS (ev_at (j := 0) (ev_var rfl r0) rfl) ev_str)) (fun hb3 H3 x3 => ?_) fun hb3 H3 x3 => ?_
      · have hm : w = tMatch := of_decide_eq_true hb3
        replace r0 := x3.rp r0
        refine ret0 kk ((x1.trans x2).trans x3) (ev_joinW (c := 32) (k := 2000) (ws := w.cps.toList :: ds.map (wordFor w)) l_space ev_str (es_of_l (e ▸ (el_cat (el_lst (ea_cons (ev_is ev_str (congrArg PyData.str hm.symm)) ea_nil)) (el_map (src_tup (ev_at (j := 1) (ev_var rfl r0) rfl)) (by omega) fun d hd => ?_) hcl))) hwlen hjl) rfl
        have hpd := hr.1 d hd
        unfold partB at hpd
        rw [if_neg h1, if_pos hm] at hpd
        obtain ⟨a, b, ed, g1, g2, g3, g4⟩ := tieB_some hpd
        subst ed
        have ewf : wordFor w (.tuple [.int a, .int b]) = numW a ++ [45] ++ numW b := by
          unfold wordFor
          rw [if_neg h1, if_pos hm]
          rfl
        rw [ewf]
        have l1 := numW_len ⟨g1, g2⟩
        have l2 := numW_len ⟨g3, g4⟩
        exact lcs_pair fun H2 x y x2 ra rb => ev_addW rfl (ev_addW l_dash (ev_strN (ev_var rfl ra) ⟨g1, g2⟩) ev_str (by simp only [List.length_cons, List.length_nil]; omega)) (ev_strN (ev_var rfl rb) ⟨g3, g4⟩) (by rw [List.length_append]; simp only [List.length_cons, List.length_nil]; omega)
      · have hm : ¬ w = tMatch := of_decide_eq_false hb3
        replace r0 := x3.rp r0
        refine ret0 kk ((x1.trans x2).trans x3) (ev_joinW (c := 32) (k := 2000) (ws := w.cps.toList :: ds.map (wordFor w)) l_space ev_str (es_of_l (e ▸ (el_cat (el_lst (ea_cons (ev_at (j := 0) (ev_var rfl r0) rfl) ea_nil)) (el_map (src_tup (ev_at (j := 1) (ev_var rfl r0) rfl)) (by omega) fun d hd => ?_) hcl))) hwlen hjl) rfl
        have hpd := hr.1 d hd
        unfold partB at hpd
        rw [if_neg h1, if_neg hm] at hpd
        refine lcs_name fun H5 x x5 rx => ?_
        have r05 := x5.rp r0
        unfold wordFor
        rw [if_neg h1, if_neg hm]
        by_cases hp : w = tPlan
        · rw [if_pos hp] at hpd ⊢
          obtain ⟨ns, ed, h3⟩ := lotB_some hpd
          subst ed
          have hg := lotI_gr h3 (by decide) (by decide)
          have elw : lotW (.tuple (ns.map .int)) = listW ns := by
            show listW ((intsOf (ns.map .int)).getD []) = _
            rw [tup_ints]
          rw [elw]
          exact ev_is (ev_if (e := .none) (et_of (ev_eqS (ev_at (j := 0) (ev_var rfl r05) rfl) ev_str)) (fun _ => (ev_call (ea_cons (ev_var rfl rx) ea_nil) ⟨ns, rfl, rfl, hg.1, by omega⟩)) fun hf => absurd hp (of_decide_eq_false hf)) (if_pos (decide_eq_true hp))
        · rw [if_neg hp] at hpd ⊢
          obtain ⟨n, ed, hg⟩ := great_gr hpd
          subst ed
          exact ev_is (ev_if (d := .none) (et_of (ev_eqS (ev_at (j := 0) (ev_var rfl r05) rfl) ev_str)) (fun hf => absurd (of_decide_eq_true hf) hp) fun _ => ev_strNo (ev_var rfl rx) hg) (if_neg (fun z => hp (of_decide_eq_true z)))
end
end Fd
-- M8
/-! A paper's text, read, is the paper. -/
namespace Fd
open PySem PySem.Spec PyProof.Rows L2
theorem numL_head : ∀ n : Nat, (TL.numL n).head? = some 48 → n = 0 := by
  intro n
  induction n using Nat.strongRecOn with
  | ind n ih =>
    intro h
    by_cases hl : n < 10
    · rw [TL.numL_lt hl] at h
      injection h with h
      omega
    · rw [TL.numL_step (by omega)] at h
      have hne := TL.numL_ne (n / 10)
      cases e : TL.numL (n / 10) with
      | nil => exact (hne e).elim
      | cons c r =>
        rw [e] at h
        have h' : c = 48 := by injection h
        have := ih (n / 10) (by omega) (by rw [e, h']; rfl)
        omega
theorem numL_all (n : Nat) : ∀ c ∈ TL.numL n, isF c = true := fun c hc => by
  have := TL.numL_digits n c hc
  unfold isF
  rw [Bool.and_eq_true, decide_eq_true_eq, decide_eq_true_eq]
  exact this
theorem numOf_numW {n : Int} (h : gr n) : numOf (numW n) = some n := by
  have e : ((n.toNat : Nat) : Int) = n := by have := h.1; omega
  have hb : numB (numW n) = true := by
    unfold numB
    have h1 : 1 ≤ (numW n).length := by
      have := TL.numL_ne n.toNat
      unfold numW
      cases h2 : TL.numL n.toNat with
      | nil => exact (this h2).elim
      | cons _ _ => simp
    have h3 : (numW n).all isF = true := List.all_eq_true.mpr (numL_all n.toNat)
    rw [decide_eq_true h1, decide_eq_true (numW_len h), h3]
    by_cases h4 : (numW n).head? = some 48
    · have h5 := numL_head n.toNat h4
      have : numW n = [48] := by
        unfold numW
        rw [h5]
        exact TL.numL_lt (by decide)
      rw [decide_eq_true this]
      simp
    · rw [decide_eq_false h4]
      rfl
  unfold numOf
  rw [if_pos hb]
  unfold numW
  rw [TL.numL_val, e]
theorem numW_no {n : Int} {c : Nat} (hc : isF c = false) : c ∉ numW n := fun h => by
  have := numL_all _ c h
  rw [hc] at this
  cases this
theorem join_mem (c e : Nat) (he : e ≠ c) : ∀ ws : List (List Nat), (∀ w ∈ ws, e ∉ w) → e ∉ TL.joinL [c] ws
  | [], _ => List.not_mem_nil
  | [a], h => h a (List.mem_cons_self ..)
  | a :: b :: r, h => fun z => by
    have z' : e ∈ a ++ ([c] ++ TL.joinL [c] (b :: r)) := z
    rcases List.mem_append.mp z' with z | z
    · exact h a (List.mem_cons_self ..) z
    · rcases List.mem_append.mp z with z | z
      · exact he (List.mem_singleton.mp z)
      · exact join_mem c e he (b :: r) (fun w hw => h w (List.mem_cons_of_mem _ hw)) z
theorem listW_no {ns : List Int} {c : Nat} (hc : isF c = false) (h44 : c ≠ 44) : c ∉ listW ns := join_mem 44 c h44 _ fun w hw => by
  obtain ⟨n, _, e⟩ := List.mem_map.mp hw
  rw [← e]
  exact numW_no hc
theorem allSome_map : ∀ ns : List Int, allSome (ns.map some) = some ns
  | [] => rfl
  | n :: ns => by
    show (allSome (ns.map some)).map (n :: ·) = _
    rw [allSome_map ns]
    rfl
theorem listOf_listW {ns : List Int} (hne : ns ≠ []) (hg : ∀ n ∈ ns, gr n) (hr : rise ns = true) : listOf (listW ns) = some ns := by
  have e1 : TL.spl [44] 0 [] (listW ns) = ns.map numW := SX.spl_join (by simpa using hne) fun p hp => by
    obtain ⟨n, _, e⟩ := List.mem_map.mp hp
    rw [← e]
    exact numW_no (by decide)
  have e2 : (ns.map numW).map numOf = ns.map some := by
    rw [List.map_map]
    exact List.map_congr_left fun n hn => numOf_numW (hg n hn)
  unfold listOf
  rw [e1, e2, allSome_map]
  dsimp only
  rw [if_pos hr]
theorem lotI_of {ns : List Int} {m : Nat} {lo hi : Int} (h : lotI ns m lo hi = true) : ns ≠ [] ∧ rise ns = true := by
  unfold lotI at h
  simp only [Bool.and_eq_true, decide_eq_true_eq] at h
  refine ⟨fun z => ?_, h.2.2⟩
  rw [z] at h
  exact absurd h.1.1 (by decide)
theorem listOf_lot {ns : List Int} {m : Nat} {lo hi : Int} (h : lotI ns m lo hi = true) (h0 : 0 ≤ lo) (h1 : hi ≤ HI) : listOf (listW ns) = some ns := by
  obtain ⟨a, b⟩ := lotI_of h
  exact listOf_listW a (lotI_gr h h0 h1).1 b
theorem rowOf_rowW {d : PyData} (h : rowB 96 d = true) : rowOf 97 (rowWd d) = d ∧ isNone d = false := by
  obtain ⟨ns, n, e, h1, h2, h3⟩ := rowB_some h
  subst e
  have gn : gr n := ⟨by omega, by unfold HI; omega⟩
  have ew : rowWd (.tuple [.tuple (ns.map .int), .int n]) = numW n ++ ([42] ++ listW ns) := by
    show rowW ((intsOf (ns.map .int)).getD []) n = _
    rw [tup_ints]
    unfold rowW
    rw [List.append_assoc]
  refine ⟨?_, rfl⟩
  rw [ew]
  unfold rowOf
  rw [SX.par_head (c := 42) (sep := []) (listW ns) (numW_no (by decide))]
  dsimp only
  have ep : pieceOf (listW ns) = some ns := by
    unfold pieceOf
    rw [listOf_lot h1 (by decide) (by decide)]
    dsimp only
    rw [if_pos h1]
  rw [numOf_numW gn, ep]
  dsimp only
  rw [if_pos (by rw [Bool.and_eq_true, decide_eq_true_eq, decide_eq_true_eq]; omega)]
theorem tieOf_tieW {d : PyData} (h : tieB d = true) : tieOf (tieWd d) = d ∧ isNone d = false := by
  obtain ⟨a, b, e, h1, h2, h3, h4⟩ := tieB_some h
  subst e
  refine ⟨?_, rfl⟩
  have ew : tieWd (.tuple [.int a, .int b]) = numW a ++ ([45] ++ numW b) := by
    show tieW a b = _
    unfold tieW
    rw [List.append_assoc]
  rw [ew]
  unfold tieOf
  rw [SX.par_head (c := 45) (sep := []) (numW b) (numW_no (by decide))]
  dsimp only
  rw [numOf_numW ⟨h1, h2⟩, numOf_numW ⟨h3, h4⟩]
theorem setOf_lotW {d : PyData} (h : setB d = true) : setOf (lotW d) = d ∧ isNone d = false := by
  obtain ⟨ns, e, h1⟩ := lotB_some h
  subst e
  refine ⟨?_, rfl⟩
  have ew : lotW (.tuple (ns.map .int)) = listW ns := by
    show listW ((intsOf (ns.map .int)).getD []) = _
    rw [tup_ints]
  rw [ew]
  unfold setOf
  rw [listOf_lot h1 (by decide) (by decide)]
  dsimp only
  rw [if_pos h1]
theorem idxOf_numW {d : PyData} (h : greatB d = true) : idxOf (numWd d) = d ∧ isNone d = false := by
  obtain ⟨n, e, hg⟩ := great_gr h
  subst e
  refine ⟨?_, rfl⟩
  unfold idxOf
  rw [show numWd (.int n) = numW n from rfl, numOf_numW hg]
  rfl
def adjOk (adj : PyData → PyData → Bool) : Option PyData → List PyData → Bool
  | _, [] => true
  | l, d :: ds => (match l with | none => true | some x => adj x d) && adjOk adj (some d) ds
theorem partsGo_ok {f : List Nat → PyData} {g : PyData → List Nat} {most : Nat} {adj : PyData → PyData → Bool} : ∀ (ds found : List PyData) (i : Nat), (∀ d ∈ ds, f (g d) = d ∧ isNone d = false) → found.length + ds.length ≤ most → adjOk adj found.getLast? ds = true →
    partsGo f most adj found i (ds.map g) = .inl (found ++ ds)
  | [], found, i, _, _, _ => by rw [List.append_nil]; rfl
  | d :: ds, found, i, h, hl, ha => by
    obtain ⟨h1, h2⟩ := h d (List.mem_cons_self ..)
    rw [List.length_cons] at hl
    have ha' : (fits adj found d && adjOk adj (some d) ds) = true := ha
    rw [Bool.and_eq_true] at ha'
    rw [List.map_cons]
    unfold partsGo
    rw [h1, h2, decide_eq_true (show found.length < most by omega), ha'.1, if_pos (by rfl), partsGo_ok ds (found ++ [d]) (i + 1) (fun e he => h e (List.mem_cons_of_mem _ he)) (by rw [List.length_append, List.length_cons, List.length_nil]; omega) (by rw [List.getLast?_concat]; exact ha'.2), List.append_assoc]
    rfl
theorem adj_rows {hi : Int} : ∀ (ds : List PyData) (l : Option PyData), (∀ d ∈ ds, rowB hi d = true) → (∀ x, l = some x → rowB hi x = true) → adjFrom (l.map keyOf) ds = true → adjOk rowAdj l ds = true
  | [], _, _, _, _ => rfl
  | d :: ds, l, h, hl, ha => by
    unfold adjFrom at ha
    rw [Bool.and_eq_true] at ha
    unfold adjOk
    rw [Bool.and_eq_true]
    have hd := h d (List.mem_cons_self ..)
    refine ⟨?_, adj_rows ds (some d) (fun e he => h e (List.mem_cons_of_mem _ he)) (fun x e => by cases e; exact hd) ha.2⟩
    cases l with
    | none => rfl
    | some x =>
      obtain ⟨ns, n, e, _⟩ := rowB_some hd
      obtain ⟨ms, m, e2, _⟩ := rowB_some (hl x rfl)
      subst e e2
      have h1 : (decide (ns.length = ms.length) && HT.lexLt ms ns) = true := by
        have := ha.1
        rw [Option.map_some, keyOf_row, keyOf_row] at this
        exact this
      show (decide ((ns.map PyData.int).length = (ms.map PyData.int).length) && HT.lexLt (keyOf _) (keyOf _)) = true
      rw [keyOf_row, keyOf_row, List.length_map, List.length_map]
      exact h1
theorem adj_ties : ∀ (ds : List PyData) (l : Option PyData), (match l with | none => rise (ds.map fstI) | some x => rise (fstI x :: ds.map fstI)) = true → adjOk tieAdj l ds = true
  | [], _, _ => rfl
  | d :: ds, l, h => by
    unfold adjOk
    rw [Bool.and_eq_true]
    cases l with
    | none => exact ⟨rfl, adj_ties ds (some d) h⟩
    | some x =>
      have h' : (decide (fstI x < fstI d) && rise (fstI d :: ds.map fstI)) = true := h
      rw [Bool.and_eq_true] at h'
      exact ⟨h'.1, adj_ties ds (some d) h'.2⟩
theorem adj_no : ∀ (ds : List PyData) (l : Option PyData), adjOk noAdj l ds = true
  | [], _ => rfl
  | d :: ds, l => by
    unfold adjOk
    rw [adj_no ds (some d), Bool.and_true]
    cases l <;> rfl
end Fd
-- M9
namespace Fd
open PySem PySem.Spec PyProof.Rows L2
def fineW (w : List Nat) : Prop := 32 ∉ w ∧ 10 ∉ w
theorem fine_tFill : fineW tFill.cps.toList := ⟨by decide +kernel, by decide +kernel⟩
theorem fine_tSight : fineW tSight.cps.toList := ⟨by decide +kernel, by decide +kernel⟩
theorem fine_tCrowd : fineW tCrowd.cps.toList := ⟨by decide +kernel, by decide +kernel⟩
theorem fine_tMatch : fineW tMatch.cps.toList := ⟨by decide +kernel, by decide +kernel⟩
theorem fine_tPlan : fineW tPlan.cps.toList := ⟨by decide +kernel, by decide +kernel⟩
theorem fine_tVine : fineW tVine.cps.toList := ⟨by decide +kernel, by decide +kernel⟩
theorem fine_num (n : Int) : fineW (numW n) := ⟨numW_no (by decide), numW_no (by decide)⟩
theorem fine_list (ns : List Int) : fineW (listW ns) := ⟨listW_no (by decide) (by decide), listW_no (by decide) (by decide)⟩
theorem fine_app {a b : List Nat} (h : fineW a) (g : fineW b) : fineW (a ++ b) := ⟨fun z => (List.mem_append.mp z).elim h.1 g.1, fun z => (List.mem_append.mp z).elim h.2 g.2⟩
theorem fine_for {w : Str} {d : PyData} (h : partB w d = true) : fineW (wordFor w d) := by
  unfold partB at h
  unfold wordFor
  by_cases hc : (decide (w = tFill) || decide (w = tSight)) = true
  · rw [if_pos hc] at h ⊢
    obtain ⟨ns, n, e, _⟩ := rowB_some h
    subst e
    show fineW (rowW ((intsOf (ns.map .int)).getD []) n)
    rw [tup_ints]
    exact fine_app (fine_app (fine_num n) ⟨by decide, by decide⟩) (fine_list ns)
  · rw [if_neg hc] at h ⊢
    by_cases hm : w = tMatch
    · rw [if_pos hm] at h ⊢
      obtain ⟨a, b, e, _⟩ := tieB_some h
      subst e
      exact fine_app (fine_app (fine_num a) ⟨by decide, by decide⟩) (fine_num b)
    · rw [if_neg hm] at h ⊢
      by_cases hp : w = tPlan
      · rw [if_pos hp] at h ⊢
        obtain ⟨ns, e, _⟩ := lotB_some h
        subst e
        show fineW (listW ((intsOf (ns.map .int)).getD []))
        rw [tup_ints]
        exact fine_list ns
      · rw [if_neg hp] at h ⊢
        obtain ⟨n, e, _⟩ := great_gr h
        subst e
        exact fine_num n
/-- fine words joined by blanks are one line of these words -/
theorem line_of {ws : List (List Nat)} (hne : ws ≠ []) (h : ∀ w ∈ ws, fineW w) : TL.spl [10] 0 [] (TL.joinL [32] ws) = [TL.joinL [32] ws] ∧ TL.spl [32] 0 [] (TL.joinL [32] ws) = ws := by
  refine ⟨?_, SX.spl_join hne fun p hp => (h p hp).1⟩
  have := TL.spl_last1 (s := 10) (S := []) (p := TL.joinL [32] ws) (acc := []) (join_mem 32 10 (by decide) ws fun w hw => (h w hw).2)
  rw [List.nil_append] at this
  exact this
theorem readP_line {ws : List (List Nat)} {d : PyData} (hne : ws ≠ []) (h : ∀ w ∈ ws, fineW w) (hl : (TL.joinL [32] ws).length ≤ 400000) (hr : readLine ws = .ok d ws.length) : readP (TL.joinL [32] ws) = .inl d := by
  obtain ⟨e1, e2⟩ := line_of hne h
  unfold readP
  rw [if_neg (by omega), e1]
  dsimp only
  rw [e2, hr]
  dsimp only
  rw [if_pos rfl, if_neg (by simp)]
/-- the word ahead of a paper's parts -/
theorem rest_word {w : Str} {ds : List PyData} (h : restB w ds = true) : w = tFill ∨ w = tSight ∨ w = tMatch ∨ w = tPlan ∨ w = tVine := by
  cases hn : decide (w = tFill ∨ w = tSight ∨ w = tMatch ∨ w = tPlan ∨ w = tVine) with
  | true => exact of_decide_eq_true hn
  | false =>
    have hn' := of_decide_eq_false hn
    simp only [not_or] at hn'
    unfold restB at h
    rw [decide_eq_false hn'.1, decide_eq_false hn'.2.1, if_neg (by decide), if_neg hn'.2.2.1, if_neg hn'.2.2.2.1, decide_eq_false hn'.2.2.2.2] at h
    cases h
theorem readLine_rest {w : Str} {ds : List PyData} (hw : ¬ w = tCrowd) (h : restB w ds = true) : readLine (w.cps.toList :: ds.map (wordFor w)) = .ok (.tuple [.str w, .tuple ds]) (w.cps.toList :: ds.map (wordFor w)).length := by
  have hr := rest_part h
  unfold readLine
  dsimp only
  rw [S_tl]
  unfold restB at h
  by_cases hc : (decide (w = tFill) || decide (w = tSight)) = true
  · rw [if_pos hc] at h ⊢
    have ef : wordFor w = rowWd := by funext d; unfold wordFor; rw [if_pos hc]
    rw [ef]
    rw [Bool.and_eq_true, decide_eq_true_eq] at h
    unfold chainB at h
    rw [Bool.and_eq_true, List.all_eq_true] at h
    rw [partsGo_ok ds [] 1 (fun d hd => rowOf_rowW (h.2.1 d hd)) (by rw [List.length_nil]; omega) (adj_rows (hi := 96) ds none h.2.1 (fun x e => by cases e) h.2.2)]
    show LnOut.ok (.tuple [.str (S w.cps.toList), .tuple ([] ++ ds)]) _ = _
    rw [S_tl, List.nil_append]
  · rw [if_neg hc] at h ⊢
    rw [if_neg hw]
    by_cases hm : w = tMatch
    · rw [if_pos hm] at h ⊢
      have ef : wordFor w = tieWd := by funext d; unfold wordFor; rw [if_neg hc, if_pos hm]
      rw [ef]
      unfold tiesB at h
      rw [Bool.and_eq_true, Bool.not_eq_true', Bool.or_eq_false_iff, decide_eq_false_iff_not, Bool.not_eq_false', List.all_eq_true] at h
      rw [partsGo_ok ds [] 1 (fun d hd => tieOf_tieW (h.1.2 d hd)) (by rw [List.length_nil]; omega) (adj_ties ds none h.2)]
      show LnOut.ok (.tuple [.str (S w.cps.toList), .tuple ([] ++ ds)]) _ = _
      rw [S_tl, List.nil_append]
    · rw [if_neg hm] at h ⊢
      by_cases hp : w = tPlan
      · rw [if_pos hp] at h ⊢
        have ef : wordFor w = lotW := by funext d; unfold wordFor; rw [if_neg hc, if_neg hm, if_pos hp]
        rw [ef]
        rw [Bool.and_eq_true, List.all_eq_true, decide_eq_true_eq] at h
        rw [partsGo_ok ds [] 1 (fun d hd => setOf_lotW (h.2 d hd)) (by rw [List.length_nil]; omega) (adj_no ds none)]
        show LnOut.ok (.tuple [.str (S w.cps.toList), .tuple ([] ++ ds)]) _ = _
        rw [S_tl, List.nil_append]
      · rw [if_neg hp] at h ⊢
        have ef : wordFor w = numWd := by funext d; unfold wordFor; rw [if_neg hc, if_neg hm, if_neg hp]
        rw [ef]
        rw [Bool.and_eq_true, Bool.and_eq_true, List.all_eq_true, decide_eq_true_eq, decide_eq_true_eq] at h
        rw [if_pos h.1, partsGo_ok ds [] 1 (fun d hd => idxOf_numW (h.2.2 d hd)) (by rw [List.length_nil]; omega) (adj_no ds none)]
        show LnOut.ok (.tuple [.str (S w.cps.toList), .tuple ([] ++ ds)]) _ = _
        rw [S_tl, List.nil_append]
/-- the round trip -/
theorem read_back {d : PyData} (h : paperB d = true) (hl : (paperW d).length ≤ 400000) : readP (paperW d) = .inl d := by
  rcases paper_cases h with ⟨s, ns, e, h1, h2, h3⟩ | ⟨w, ds, e, hw, hr⟩
  · subst e
    rw [paperW_crowd] at hl ⊢
    have gs : gr s := ⟨h1, by unfold HI; omega⟩
    refine readP_line (List.cons_ne_nil _ _) (fun w hw => ?_) hl ?_
    · simp only [List.mem_cons, List.not_mem_nil, or_false] at hw
      rcases hw with e | e | e
      · rw [e]; exact fine_tCrowd
      · rw [e]; exact fine_num s
      · rw [e]; exact fine_list ns
    · unfold readLine
      dsimp only
      rw [S_tl, if_neg (by decide +kernel), if_pos rfl]
      unfold crowdGo
      have e1 : [tCrowd.cps.toList, numW s, listW ns][1]? = some (numW s) := rfl
      have e2 : [tCrowd.cps.toList, numW s, listW ns][1 + 1]? = some (listW ns) := rfl
      rw [e1, e2]
      dsimp only
      rw [numOf_numW gs]
      dsimp only
      have hlen : ns.length ≤ 80 := (lotI_gr h3 (by decide) (by decide)).2.1
      rw [if_pos (by rw [Bool.and_eq_true, decide_eq_true_eq, decide_eq_true_eq]; exact ⟨h1, h2⟩), listOf_lot h3 (by decide) (by decide)]
      dsimp only
      rw [if_pos (decide_eq_true hlen)]
      rfl
  · subst e
    rw [paperW_rest hw] at hl ⊢
    refine readP_line (List.cons_ne_nil _ _) (fun x hx => ?_) hl (readLine_rest hw hr)
    rcases List.mem_cons.mp hx with z | z
    · rw [z]
      rcases rest_word hr with e | e | e | e | e <;> rw [e]
      · exact fine_tFill
      · exact fine_tSight
      · exact fine_tMatch
      · exact fine_tPlan
      · exact fine_tVine
    · obtain ⟨c, hc, e⟩ := List.mem_map.mp z
      rw [← e]
      exact fine_for ((rest_part hr).1 c hc)
end Fd
-- J1
namespace Fd
open PySem PySem.Spec PyProof.Rows L2
/-- a jar that holds x, y -/
def jarV (x y : Int) : HO := .lst [.int x, .int y]
def okJar (x y : Int) : Prop := 0 ≤ x ∧ 0 ≤ y ∧ y < 2147483647
/-- the world in which just the jar at j could be written, and holds x, y -/
def JX (j : Addr) (x y : Int) : Wd := ⟨fun b => b = j, fun H => H j = some (jarV x y), fun H H' e h => h j _ e fun _ => rfl, fun H b e m => by
  subst m
  exact ⟨_, e, fun xs z => (by cases z), fun ob u z => (by cases z)⟩⟩
theorem jx_others {j : Addr} {x y : Int} {H H' : Hp} (w : Wx (JX j x y) H H') : Others j H H' := fun b o n e => w.2.2 b o e n
section
variable {K : PySem.W.Frag} {j : Addr} {x y : Int} {σ : L2.St} {H : Hp} {i : Nat} {te : TE}
theorem ev_jar0 (e : σ[i]? = some (some (.ref j))) : Ev (JX j x y) K (tOp (rIx K) (tVar i) (tC (.int 0))) σ H (.int x) := fun H1 w Q k =>
  ⟨_, e, .inl ⟨j, [.int x, .int y], 0, .int x, rfl, rfl, SqL.of w.2.1, rfl, k _ H1 (Wx.refl w.2.1) (rp_int.mpr rfl)⟩⟩
theorem ev_jar1 (e : σ[i]? = some (some (.ref j))) : Ev (JX j x y) K (tOp (rIx K) (tVar i) (tC (.int 1))) σ H (.int y) := fun H1 w Q k =>
  ⟨_, e, .inl ⟨j, [.int x, .int y], 1, .int y, rfl, rfl, SqL.of w.2.1, rfl, k _ H1 (Wx.refl w.2.1) (rp_int.mpr rfl)⟩⟩
theorem set_jar0 {n : Int} {u : TS} {D : Ends} (e : σ[i]? = some (some (.ref j))) (h0 : H j = some (jarV x y)) (h : Ev (JX j x y) K te σ H (.int n)) (k : ∀ H', Others j H H' → H' j = some (jarV n y) → u D σ H') : tSeq (tAsg te (gSub (tVar i) (tC (.int 0)) rSetL)) u D σ H :=
  h.run (W := JX j x y) h0 fun v H1 w hv => ⟨_, e, j, [.int x, .int y], 0, 0, rfl, rfl, w.2.1, rfl, k _ (fun b o nb eb => by rw [upd_ne nb]; exact jx_others w b o nb eb) (by rw [upd_same, rp_int.mp hv]; rfl)⟩
theorem set_jar1 {n : Int} {u : TS} {D : Ends} (e : σ[i]? = some (some (.ref j))) (h0 : H j = some (jarV x y)) (h : Ev (JX j x y) K te σ H (.int n)) (k : ∀ H', Others j H H' → H' j = some (jarV x n) → u D σ H') : tSeq (tAsg te (gSub (tVar i) (tC (.int 1)) rSetL)) u D σ H :=
  h.run (W := JX j x y) h0 fun v H1 w hv => ⟨_, e, j, [.int x, .int y], 1, 1, rfl, rfl, w.2.1, rfl, k _ (fun b o nb eb => by rw [upd_ne nb]; exact jx_others w b o nb eb) (by rw [upd_same, rp_int.mp hv]; rfl)⟩
end
/-- a draw below top -/
def spTake : Sp := fun vs H Q _ => ∃ (j : Addr) (top x y : Int), vs = [.ref j, .int top] ∧ H j = some (jarV x y) ∧ okJar x y ∧ 1 ≤ top ∧ top < 1073741824 ∧
  ∀ d H' x' y', 0 ≤ d → d < top → okJar x' y' → Others j H H' → H' j = some (jarV x' y') → Q (.int d) H'
section
variable {P : Program} {w : World} {K : PySem.W.Frag} {mg : Str → Option Value} {base : Heap}
theorem cd__law_take (T : Tx K mg) : Cd P w K mg base CX0 1 "_law_take" spTake := by
  refine cd_of (k := 0) T.d__law_take sc__law_take (fun _ _ _ _ _ _ us hl => match us, hl with | [_, _], _ => rfl) (fun vs H Q E h => by obtain ⟨_, _, _, _, e, _⟩ := h; rw [e]; rfl) ?_
  intro f cdv A outer s H vs Q E hr ⟨j, top, x, y, e, hj, ok, h1, h2, k⟩
  subst e
  refine ⟨_, (pss_cons (ps_if (pt_cmpR op_gt (pe_ix (ixL K) (pv 0) pe_int (fun _ _ => rfl)) pe_int (nomark _))
      (pss_cons (ps_set (i := 2) sc__law_take.nd rfl (Or.inl rfl) (pe_op op_mod (pe_callTy call_int1 (by rfl) T.n_int (by decide +kernel) (pa_cons (pe_ix (ixL K) (pv 0) pe_int (fun _ _ => rfl)) pa_nil)) (pv 1)))
      (pss_cons (ps_asg (pe_op op_fdiv (pe_ix (ixL K) (pv 0) pe_int (fun _ _ => rfl)) (pv 1)) (pg_sub (pv 0) pe_int set_list))
      (pss_one (ps_ret (pv 2))))) pss_nil)
    (pss_cons (ps_asg (pe_op op_mod (pe_callTy call_int1 (by rfl) T.n_int (by decide +kernel) (pa_cons (pe_op op_add (pe_op op_mul (pe_ix (ixL K) (pv 0) pe_int (fun _ _ => rfl)) pe_int) pe_int) pa_nil)) pe_int) (pg_sub (pv 0) pe_int set_list))
    (pss_one (ps_ret (pe_op op_mod (pe_callTy call_int1 (by rfl) T.n_int (by decide +kernel) (pa_cons (pe_op op_fdiv (pe_op op_mod (pe_callTy call_int1 (by rfl) T.n_int (by decide +kernel) (pa_cons (pe_op op_mul (pe_ix (ixL K) (pv 0) pe_int (fun _ _ => rfl)) (pe_ix (ixL K) (pv 0) pe_int (fun _ _ => rfl))) pa_nil)) pe_int) pe_int) pa_nil)) (pv 1)))))), ?_⟩
  have rt : ∀ {H}, Rp K H (.int top) (.int top) := rp_int.mpr rfl
  refine if_then (W := JX j x y) hj (et_of (ev_opB0 (ev_jar0 rfl) ev_int)) (fun hb H1 x1 => ?_) fun hb H1 x1 => ?_
  · rw [decide_eq_true_eq] at hb
    refine set_then (W := JX j x y) (p := VP.d _ K _) x1.2.1 (ev_opI (ev_int1 (ev_jar0 rfl)) (ev_var rfl rt) (by omega)) fun v2 H2 x2 r2 => ?_
    have ev2 := rp_int.mp r2
    subst ev2
    refine set_jar0 rfl x2.2.1 (ev_opI (ev_jar0 rfl) (ev_var rfl rt) ⟨by omega, h2⟩) fun H3 o3 g3 => ?_
    have hm := Int.emod_nonneg x (show top ≠ 0 by omega)
    have hm2 := Int.emod_lt_of_pos x (show 0 < top by omega)
    have hd := Int.ediv_nonneg ok.1 (show 0 ≤ top by omega)
    exact ⟨_, rfl, k _ H3 _ y hm hm2 ⟨hd, ok.2⟩ ((jx_others (x1.trans x2)).trans o3) g3⟩
  · have hy1 := ok.2.1
    have hy2 := ok.2.2
    refine set_jar1 rfl x1.2.1 (ev_opI (ev_int1 (ev_opI0 (ev_opI (ev_jar1 rfl) ev_int (.inr (by decide))) ev_int)) ev_int (by decide)) fun H2 o2 g2 => ?_
    have hm := Int.emod_nonneg (y * 39373 + 7) (show (2147483647 : Int) ≠ 0 by decide)
    have hm2 := Int.emod_lt_of_pos (y * 39373 + 7) (show (0 : Int) < 2147483647 by decide)
    generalize (y * 39373 + 7) % 2147483647 = z at g2 hm hm2
    refine (ev_opI (K := K) (W := JX j x z) (ev_int1 (ev_opI (ev_opI (ev_int1 (ev_opI (ev_jar1 rfl) (ev_jar1 rfl) (.inl ⟨by omega, by omega⟩))) ev_int (by decide)) ev_int ⟨by decide, by decide⟩)) (ev_var rfl rt) (by omega)).run g2 fun v H3 x3 hv => ?_
    have ev := rp_int.mp hv
    subst ev
    exact k _ H3 x z (Int.emod_nonneg _ (by omega)) (Int.emod_lt_of_pos _ (by omega)) ⟨ok.1, hm, hm2⟩ (((jx_others x1).trans o2).trans (jx_others x3)) x3.2.1
end
end Fd
-- J2
namespace Fd
open PySem PySem.Spec PyProof.Rows L2 LamX NdefX
/-- the world of the law: its jar at j, its tables of code objects -/
def GW (TT : List NTab) (j : Addr) : Wd := ⟨fun b => b = j ∨ ∃ p ∈ TT, p.1 = b, fun H => (∃ x y, H j = some (jarV x y) ∧ okJar x y) ∧ TabsN TT H, fun H H' ⟨⟨x, y, e, ok⟩, t⟩ h => ⟨⟨x, y, h j _ e fun _ => .inl rfl, ok⟩, fun p hp => by
    obtain ⟨ps, h1, h2, h3⟩ := t p hp
    refine ⟨ps, h _ _ h1 (fun z => by cases z), h2, fun pos cv hc => ?_⟩
    obtain ⟨c, e1, e2⟩ := h3 pos cv hc
    exact ⟨c, e1, h _ _ e2 (fun z => by unfold CodeO at z; cases z)⟩⟩, fun H b ⟨⟨x, y, e, ok⟩, t⟩ m => by
    rcases m with m | ⟨p, hp, m⟩
    · subst m
      exact ⟨_, e, fun xs z => (by cases z), fun ob u z => (by cases z)⟩
    · obtain ⟨ps, h1, _⟩ := t p hp
      rw [m] at h1
      exact ⟨_, h1, fun xs z => (by cases z), fun ob u z => (by cases z)⟩⟩
section
variable {TT : List NTab} {j : Addr} {K : PySem.W.Frag} {σ : L2.St} {H H' : Hp} {i : Nat} {te tb : TE} {t : TA} {ds : List PyData}
theorem gw_jar {x y : Int} (g : (GW TT j).J H) (ho : Others j H H') (e : H' j = some (jarV x y)) (ok : okJar x y) : Wx (GW TT j) H H' := by
  refine ⟨g, ⟨⟨x, y, e, ok⟩, fun p hp => ?_⟩, fun b o h n => ho b o (fun z => n (.inl z)) h⟩
  obtain ⟨⟨x0, y0, e0, _⟩, t⟩ := g
  obtain ⟨ps, h1, h2, h3⟩ := t p hp
  have nj : ∀ {b o}, H b = some o → (∀ u v, o ≠ jarV u v) → b ≠ j := fun {b o} h z q => by
    rw [q, e0] at h
    exact z x0 y0 (Option.some.inj h).symm
  refine ⟨ps, ho _ _ (nj h1 fun u v z => by cases z) h1, h2, fun pos cv hc => ?_⟩
  obtain ⟨c, e1, e2⟩ := h3 pos cv hc
  exact ⟨c, e1, ho _ _ (nj e2 fun u v z => by unfold CodeO at z; cases z) e2⟩
/-- one of some data -/
@[reducible] def VP.ex (W : Wd) (K : PySem.W.Frag) (Pd : PyData → Prop) : VP W := ⟨fun H v => ∃ d, Pd d ∧ Rp K H d v, fun x ⟨d, h, r⟩ => ⟨d, h, x.rp r⟩⟩
def inR (n : Int) (d : PyData) : Prop := ∃ i : Int, d = .int i ∧ 0 ≤ i ∧ i < n
abbrev EvX (W : Wd) (K : PySem.W.Frag) (te : TE) (σ : L2.St) (H : Hp) (Pd : PyData → Prop) : Prop := EvP te σ H (VP.ex W K Pd)
theorem ev_take {top : Int} {E : XK} (e : σ[i]? = some (some (.ref j))) (h : Ev (GW TT j) K tb σ H (.int top)) (h1 : 1 ≤ top) (h2 : top < 1073741824) : EvX (GW TT j) K (tCall spTake [] E (tCons (tVar i) (tCons tb tNil))) σ H (inR top) := fun H1 x Q k =>
  ⟨_, e, h H1 x _ fun v H2 x2 hv => by
    obtain ⟨a, b, ej, ok⟩ := x2.2.1.1
    exact ⟨j, top, a, b, by rw [rp_int.mp hv]; rfl, ej, ok, h1, h2, fun d H3 x' y' g1 g2 ok' ho e' => k _ H3 (x2.trans (gw_jar x2.2.1 ho e' ok')) ⟨.int d, ⟨d, rfl, g1, g2⟩, rp_int.mpr rfl⟩⟩⟩
/-- the promise of a def of the law that draws: whatever of P it hands back -/
def SpJ (K : PySem.W.Frag) (TT : List NTab) (f : List PyData → (PyData → Prop) → Prop) : Sp := fun vs H Q _ => ∃ j us ds Pd, vs = .ref j :: us ∧ (GW TT j).J H ∧ Rps K H ds us ∧ f ds Pd ∧ ∀ d, Pd d → ∀ v H', Wx (GW TT j) H H' → Rp K H' d v → Q v H'
theorem SpJ.len {f : List PyData → (PyData → Prop) → Prop} {n : Nat} (h : ∀ ds r, f ds r → ds.length = n) : ∀ vs H Q E, SpJ K TT f vs H Q E → vs.length = n + 1 := fun vs H Q E ⟨j, us, ds, P, e, _, h1, h2, _⟩ => by
  rw [e, List.length_cons, h1.len, h ds P h2]
theorem ev_callJ {f : List PyData → (PyData → Prop) → Prop} {Pd : PyData → Prop} {E : XK} (e : σ[i]? = some (some (.ref j))) (h : EvA (GW TT j) K t σ H ds) (hf : f ds Pd) : EvX (GW TT j) K (tCall (SpJ K TT f) [] E (tCons (tVar i) t)) σ H Pd := fun H1 x Q k =>
  ⟨_, e, h H1 x _ fun us H2 x2 hs => ⟨j, us, ds, Pd, by rw [List.append_nil], x2.2.1, hs, hf, fun d hd v H3 x3 r => k v H3 (x2.trans x3) ⟨d, hd, r⟩⟩⟩
theorem evx_of {d : PyData} {Pd : PyData → Prop} (h : Ev (GW TT j) K te σ H d) (hd : Pd d) : EvX (GW TT j) K te σ H Pd := EvP.imp (q := VP.ex _ K Pd) h fun H v _ r => ⟨d, hd, r⟩
theorem evx_imp {Pd Pe : PyData → Prop} (h : EvX (GW TT j) K te σ H Pd) (hi : ∀ d, Pd d → Pe d) : EvX (GW TT j) K te σ H Pe := EvP.imp (q := VP.ex _ K Pe) h fun H v _ ⟨d, hd, r⟩ => ⟨d, hi d hd, r⟩
end
/-- the jar def's end -/
theorem retJ {TT : List NTab} {j : Addr} {K : PySem.W.Frag} {H0 H : Hp} {Q : VK} {Pd : PyData → Prop} {te : TE} {σ : L2.St} {D : Ends} (kk : ∀ d, Pd d → ∀ v H', Wx (GW TT j) H0 H' → Rp K H' d v → Q v H') (x0 : Wx (GW TT j) H0 H) (h : EvX (GW TT j) K te σ H Pd) (hD : D.rt = Q := by rfl) : tRet te D σ H :=
  h.run x0.2.1 fun v H' x ⟨d, hd, r⟩ => by
    rw [hD]
    exact kk d hd v H' (x0.trans x) r
/-- _law_one(jar, things) -/
def spOneOf (K : PySem.W.Frag) (TT : List NTab) : Sp := fun vs H Q _ => ∃ (j p : Addr) (xs : List V) (ds : List PyData), vs = [.ref j, .ref p] ∧ (GW TT j).J H ∧ (RdL (GW TT j) K H p xs ∨ SqT K H p xs) ∧ Rps K H ds xs ∧ ds ≠ [] ∧ ds.length < 1000000 ∧
  ∀ d ∈ ds, ∀ v H', Wx (GW TT j) H H' → Rp K H' d v → Q v H'
section
variable {P : Program} {w : World} {K : PySem.W.Frag} {mg : Str → Option Value} {base : Heap} {TT : List NTab}
theorem cd__law_one (T : Tx K mg) : Cd P w K mg base CX0 2 "_law_one" (spOneOf K TT) := by
  refine cd_of (k := 1) T.d__law_one sc__law_one (fun _ _ _ _ _ _ us hl => match us, hl with | [_, _], _ => rfl) (fun vs H Q E h => by obtain ⟨_, _, _, _, e, _⟩ := h; rw [e]; rfl) ?_
  intro f cdv A outer s H vs Q E hr ⟨j, p, xs, ds, e, g, hp, hs, hne, hl, kk⟩
  subst e
  refine ⟨_, (pss_one (ps_ret (pe_ix (ixL K) (pv 1) (pe_d (cd__law_take T) hr (by decide) (pa_cons (pv 0) (pa_cons (pe_callB (kLen K) (by rfl) T.n_len PySem.boot_len (pa_cons (pv 1) pa_nil)) pa_nil))) (fun _ _ => rfl)))), ?_⟩
  have es : ∀ {H1}, Wx (GW TT j) H H1 → EvS (GW TT j) K (tVar 1) [some (.ref j), some (.ref p)] H1 ds := fun x => evp_var (p := VP.s (GW TT j) K ds) rfl ⟨p, xs, rfl, hp.elim (fun h => .inl (h.st x)) (fun h => .inr (x.keepT.sq h)), x.rps hs⟩
  have x0 : Wx (GW TT j) H H := Wx.refl g
  have hpos : 1 ≤ ds.length := by
    cases ds with
    | nil => exact (hne rfl).elim
    | cons _ _ => simp
  refine ⟨_, rfl, (ev_take (TT := TT) (j := j) (i := 0) rfl (ev_len (es x0)) (by omega) (by omega)).run g fun v H1 x1 ⟨d, ⟨i, ei, h0, h1⟩, r⟩ => ?_⟩
  subst ei
  have ev := rp_int.mp r
  subst ev
  have hi : i.toNat < ds.length := by omega
  obtain ⟨v, hv, rv⟩ := (x1.rps hs).get (List.getElem?_eq_getElem hi)
  have hat : atI xs i = some v := by
    unfold atI
    have hx := hs.len
    have := ixN_nat (n := xs.length) (j := i.toNat) (by omega)
    rw [show ((i.toNat : Nat) : Int) = i by omega] at this
    rw [this]
    exact hv
  have fin := kk _ (List.getElem_mem hi) v H1 x1 rv
  rcases hp with h | h
  · exact .inl ⟨p, xs, i, v, rfl, rfl, (h.st x1).1, hat, fin⟩
  · exact .inr (.inl ⟨p, xs, i, v, rfl, rfl, x1.keepT.sq h, hat, fin⟩)
end
section
variable {TT : List NTab} {j : Addr} {K : PySem.W.Frag} {σ : L2.St} {H H' : Hp} {i : Nat} {te tb : TE} {t : TA} {ds : List PyData}
theorem ev_one {E : XK} (e : σ[i]? = some (some (.ref j))) (h : EvS (GW TT j) K tb σ H ds) (hne : ds ≠ []) (hl : ds.length < 1000000 := by first | decide | (simp; done)) : EvX (GW TT j) K (tCall (spOneOf K TT) [] E (tCons (tVar i) (tCons tb tNil))) σ H (fun d => d ∈ ds) := fun H1 x Q k =>
  ⟨_, e, h H1 x _ fun v H2 x2 ⟨p, xs, ev, hp, hs⟩ => ⟨j, p, xs, ds, by rw [ev]; rfl, x2.2.1, hp, hs, hne, hl, fun d hd v H3 x3 r => k v H3 (x2.trans x3) ⟨d, hd, r⟩⟩⟩
end
end Fd
-- J3
namespace Fd
open PySem PySem.Spec PyProof.Rows L2 LamX NdefX
/-- a list of n data of P -/
@[reducible] def VP.la (W : Wd) (K : PySem.W.Frag) (Pd : PyData → Prop) (n : Nat) : VP W := ⟨fun H v => ∃ ds, ds.length = n ∧ (∀ d ∈ ds, Pd d) ∧ (VP.l W K ds).P H v, fun {H H' v} x h => by
    obtain ⟨ds, h1, h2, h3⟩ := h
    exact ⟨ds, h1, h2, (VP.l W K ds).st x h3⟩⟩
section
variable {W : Wd} {K : PySem.W.Frag} {σ : L2.St} {H : Hp} {ta tb te : TE} {tr : TA} {Pd Pe : PyData → Prop} {n : Nat} {ds : List PyData}
def EvAP (W : Wd) (K : PySem.W.Frag) (ta : TA) (σ : L2.St) (H : Hp) (Pd : PyData → Prop) (n : Nat) : Prop := ∀ H1, Wx W H H1 → ∀ Q : List V → Hp → Prop, (∀ ds vs H2, ds.length = n → (∀ d ∈ ds, Pd d) → Wx W H1 H2 → Rps K H2 ds vs → Q vs H2) → ta σ H1 Q
theorem eap_nil : EvAP W K tNil σ H Pd 0 := fun H1 x Q k => k [] [] H1 rfl (fun d hd => by cases hd) (Wx.refl x.2.1) (rps_nil.mpr rfl)
theorem eap_cons (h : EvX W K ta σ H Pd) (hr : EvAP W K tr σ H Pd n) : EvAP W K (tCons ta tr) σ H Pd (n + 1) := fun H1 x Q k =>
  h H1 x _ fun v H2 x2 ⟨d, hd, r⟩ => hr H2 (x.trans x2) _ fun ds vs H3 hl hp x3 hs => k (d :: ds) (v :: vs) H3 (by rw [List.length_cons, hl]) (fun e he => by
    rcases List.mem_cons.mp he with z | z
    · rw [z]; exact hd
    · exact hp e z) (x2.trans x3) (rps_cons.mpr ⟨v, vs, rfl, x3.rp r, hs⟩)
theorem elp_lst (h : EvAP W K tr σ H Pd n) (hl : n ≤ 10000000 := by decide) : EvP (tLst tr) σ H (VP.la W K Pd n) := fun H1 x Q k =>
  h H1 x _ fun ds vs H2 h1 h2 x2 hs => ⟨by rw [hs.len, h1]; exact sz_of hl, fun p hp => k _ _ (x2.trans (Wx.new x2.2.1 hp)) ⟨ds, h1, h2, p, vs, rfl, upd_same, Wx.nM x2.2.1 hp, (Wx.new x2.2.1 hp).rps hs⟩⟩
theorem evx_d {d : PyData} (h : Ev W K te σ H d) (hd : Pd d) : EvX W K te σ H Pd := EvP.imp (q := VP.ex W K Pd) h fun H v _ r => ⟨d, hd, r⟩
theorem evx_i (h : EvX W K te σ H Pd) (hi : ∀ d, Pd d → Pe d) : EvX W K te σ H Pe := EvP.imp (q := VP.ex W K Pe) h fun H v _ ⟨d, hd, r⟩ => ⟨d, hi d hd, r⟩
theorem evx_opI0 {g : Int → Int → Int} {a m : Int} (ha : Ev W K ta σ H (.int a)) (hb : EvX W K tb σ H (inR m)) (hp : ∀ i, 0 ≤ i → i < m → Pd (.int (g a i))) : EvX W K (tOp (rI0 fun i j => .int (g i j)) ta tb) σ H Pd :=
  evp_op ha hb fun x y H jH hx ⟨d, ⟨i, e, h0, h1⟩, hy⟩ Q k => by
    subst e
    exact ⟨a, i, rp_int.mp hx, rp_int.mp hy, k _ H (Wx.refl jH) ⟨_, hp i h0 h1, rp_int.mpr rfl⟩⟩
/-- a comprehension of data of P -/
theorem el_lcP {wi : TI} {i : Nat} {vs : List Nat} (hs : Src W K wi σ H ds) (hl : ds.length ≤ 10000000) (hf : ∀ d ∈ ds, ∀ H1 x, Wx W H H1 → Rp K H1 d x → EvX W K te ((wipe σ vs).set i (some x)) H1 Pd) (hw : ∀ x : V, wipe ((wipe σ vs).set i (some x)) vs = wipe σ vs := by intro _; rfl) :
    EvP (tLc wi (gName i) tYes te vs) σ H (VP.la W K Pd ds.length) := fun H1 x Q k =>
  hs H1 x _ fun J H2 x2 G D hD => by
    refine lc_it G.walk (fun i Hi => Wx W H2 Hi ∧ ∃ acc es, Hi D = some (.lst acc) ∧ es.length = i ∧ (∀ e ∈ es, Pd e) ∧ Rps K Hi es acc) ⟨Wx.new x2.2.1 hD, [], [], upd_same, rfl, (fun e he => by cases he), rps_nil.mpr rfl⟩ (fun i Hi _ h => h.1) (fun i y Hi Hi' hi ⟨xi, acc, es, ha, hel, hep, hr⟩ ⟨xy, hy⟩ => ?_) fun Hi ⟨xi, acc, es, ha, hel, hep, hr⟩ => ?_
    · have hd : ds[i]? = some ds[i] := List.getElem?_eq_getElem hi
      have hx := hy _ hd
      have nD : ¬ W.M D := Wx.nM x2.2.1 hD
      refine ⟨hw y, ?_⟩
      refine (fun h => (Eq.mpr (if_pos (e := False) (rfl : true = true)) h)) ?_
      refine (hf ds[i] (List.getElem_mem hi) Hi' y ((x.trans x2).trans (xi.trans xy)) hx).run xy.2.1 fun v H4 x4 ⟨d4, p4, r4⟩ => ?_
      have h4 : H4 D = some (.lst acc) := x4.2.2 _ _ (xy.2.2 _ _ ha nD) nD
      have lacc := hr.len
      refine ⟨acc, h4, sz_lt (by omega), Wx.mut ((xi.trans xy).trans x4) hD h4 rfl, acc ++ [v], es ++ [d4], upd_same, by rw [List.length_append, hel]; rfl, fun e he => ?_, ?_⟩
      · rcases List.mem_append.mp he with z | z
        · exact hep e z
        · rw [List.mem_singleton.mp z]; exact p4
      · have kt : KeepT H4 (upd H4 D (.lst (acc ++ [v]))) := KeepT.mut h4 rfl
        exact (Rps.mono kt _ _ ((xy.trans x4).rps hr)).app (Rps.one (Rp.mono kt _ _ r4))
    · exact k _ Hi (x2.trans xi) ⟨es, hel, hep, D, acc, rfl, ha, Wx.nM x2.2.1 hD, hr⟩
end
section
variable {TT : List NTab} {j : Addr} {K : PySem.W.Frag} {σ : L2.St} {H H' : Hp} {i : Nat} {te tb : TE} {Pd : PyData → Prop} {n : Nat}
theorem ev_oneA {E : XK} (e : σ[i]? = some (some (.ref j))) (h : EvP tb σ H (VP.la (GW TT j) K Pd n)) (h1 : 1 ≤ n := by decide) (hl : n < 1000000 := by decide) : EvX (GW TT j) K (tCall (spOneOf K TT) [] E (tCons (tVar i) (tCons tb tNil))) σ H Pd := fun H1 x Q k =>
  ⟨_, e, h H1 x _ fun v H2 x2 ⟨ds, g1, g2, p, xs, ev, hp, hn, hs⟩ => ⟨j, p, xs, ds, by rw [ev]; rfl, x2.2.1, .inl ⟨SqL.of hp, hn⟩, hs, (fun z => by rw [z] at g1; simp at g1; omega), by omega, fun d hd v H3 x3 r => k v H3 (x2.trans x3) ⟨d, g2 d hd, r⟩⟩⟩
end
def isGreat (d : PyData) : Prop := greatB d = true
theorem great_int {i : Int} (h0 : 0 ≤ i) (h1 : i ≤ HI) : isGreat (.int i) := by
  show (decide (0 ≤ i) && decide (i ≤ HI)) = true
  rw [decide_eq_true h0, decide_eq_true h1]
  rfl
section
variable {P : Program} {w : World} {K : PySem.W.Frag} {mg : Str → Option Value} {base : Heap} {TT : List NTab}
theorem cd__law_great_drawn (T : Tx K mg) : Cd P w K mg base CX0 3 "_law_great_drawn" (SpJ K TT fun ds Pd => ds = [] ∧ Pd = isGreat) := by
  refine cd_of (k := 2) T.d__law_great_drawn sc__law_great_drawn (fun _ _ _ _ _ _ us hl => match us, hl with | [_], _ => rfl) (SpJ.len fun ds r h => by obtain ⟨e, _⟩ := h; rw [e]; rfl) ?_
  intro f cdv A outer s H vs Q E hr ⟨j, us, ds, Pd, e, g, hs, ⟨e1, e2⟩, kk⟩
  subst e e1 e2
  have := rps_nil.mp hs
  subst this
  refine ⟨_, (pss_cons (ps_set (i := 1) sc__law_great_drawn.nd rfl (Or.inl rfl) (pe_d (cd__law_one (TT := TT) T) hr (by decide) (pa_cons (pv 0) (pa_cons (pe_lst (pa_cons (pe_op op_add (pe_op op_pow pe_int pe_int) (pe_d (cd__law_take T) hr (by decide) (pa_cons (pv 0) (pa_cons pe_int pa_nil)))) (pa_cons (pe_op op_sub (pe_op op_sub (pe_op op_pow pe_int pe_int) pe_int) (pe_d (cd__law_take T) hr (by decide) (pa_cons (pv 0) (pa_cons pe_int pa_nil)))) pa_nil))) pa_nil))))
    (pss_one (ps_ret (pe_d (cd__law_one (TT := TT) T) hr (by decide) (pa_cons (pv 0) (pa_cons (pe_lst (pa_cons (pe_d (cd__law_take T) hr (by decide) (pa_cons (pv 0) (pa_cons pe_int pa_nil))) (pa_cons (pe_d (cd__law_take T) hr (by decide) (pa_cons (pv 0) (pa_cons pe_int pa_nil))) (pa_cons (pv 1) (pa_cons (pv 1) pa_nil))))) pa_nil)))))), ?_⟩
  have x0 : Wx (GW TT j) H H := Wx.refl g
  refine set_then (W := GW TT j) (p := VP.ex _ K isGreat) g (ev_oneA (n := 2) rfl (elp_lst (eap_cons (evx_opI0 (m := 9) (ev_opI ev_int ev_int (by unfold CPow; decide +kernel)) (ev_take rfl ev_int (by decide) (by decide)) fun i h0 h1 => great_int ?_ ?_) (eap_cons (evx_opI0 (m := 2) (ev_opI0 (ev_opI ev_int ev_int (by unfold CPow; decide +kernel)) ev_int) (ev_take rfl ev_int (by decide) (by decide)) fun i h0 h1 => great_int ?_ ?_) eap_nil)))) fun v1 H1 x1 ⟨d1, h1, r1⟩ => ?_
  · show 0 ≤ (10 : Int) ^ 19 + i
    omega
  · show (10 : Int) ^ 19 + i ≤ HI
    unfold HI
    omega
  · show 0 ≤ (10 : Int) ^ 20 - 1 - i
    omega
  · show (10 : Int) ^ 20 - 1 - i ≤ HI
    unfold HI
    omega
  · have hR : ∀ m : Int, m ≤ 90 → ∀ d, inR m d → isGreat d := fun m hm d ⟨i, e, h0, h1⟩ => by
      rw [e]
      exact great_int h0 (by unfold HI; omega)
    exact retJ kk x1 (ev_oneA (n := 4) rfl (elp_lst (eap_cons (evx_i (ev_take rfl ev_int (by decide) (by decide)) (hR 4 (by decide))) (eap_cons (evx_i (ev_take rfl ev_int (by decide) (by decide)) (hR 90 (by decide))) (eap_cons (evx_d (ev_var rfl r1) h1) (eap_cons (evx_d (ev_var rfl r1) h1) eap_nil))))))
end
end Fd
-- J4
namespace Fd
open PySem PySem.Spec PyProof.Rows L2 LamX NdefX
section
variable {κ : Type} [DecidableEq κ]
theorem putK_keys (kvs : List (κ × V)) (k : κ) (v : V) : (putK kvs k v).map (·.1) = if k ∈ kvs.map (·.1) then kvs.map (·.1) else kvs.map (·.1) ++ [k] := by
  unfold putK
  by_cases h : k ∈ kvs.map (·.1)
  · have h2 : (kvs.any fun kv => decide (kv.1 = k)) = true := by
      obtain ⟨kv, hk, e⟩ := List.mem_map.mp h
      exact List.any_eq_true.mpr ⟨kv, hk, decide_eq_true e⟩
    rw [if_pos h2, if_pos h, List.map_map]
    refine List.map_congr_left fun kv _ => ?_
    show (if kv.1 = k then (kv.1, v) else kv).1 = kv.1
    split <;> rfl
  · have h2 : ¬ (kvs.any fun kv => decide (kv.1 = k)) = true := fun z => by
      obtain ⟨kv, hk, e⟩ := List.any_eq_true.mp z
      exact h (List.mem_map.mpr ⟨kv, hk, of_decide_eq_true e⟩)
    rw [if_neg h2, if_neg h, List.map_append]
    rfl
end
theorem mergeK_keys : ∀ (more kvs : List (Key × V)), (kvs.map (·.1)).Nodup → ((mergeK kvs more).map (·.1)).Nodup ∧ (∀ k ∈ (mergeK kvs more).map (·.1), k ∈ kvs.map (·.1) ∨ k ∈ more.map (·.1)) ∧ (∀ k, (k ∈ kvs.map (·.1) ∨ k ∈ more.map (·.1)) → k ∈ (mergeK kvs more).map (·.1))
  | [], kvs, h => ⟨h, fun k hk => .inl hk, fun k hk => hk.elim id fun z => by cases z⟩
  | kv :: more, kvs, h => by
    have e : mergeK kvs (kv :: more) = mergeK (putK kvs kv.1 kv.2) more := rfl
    have hk := putK_keys kvs kv.1 kv.2
    have hn : ((putK kvs kv.1 kv.2).map (·.1)).Nodup := by
      rw [hk]
      by_cases h2 : kv.1 ∈ kvs.map (·.1)
      · rw [if_pos h2]; exact h
      · rw [if_neg h2]
        exact List.nodup_append.mpr ⟨h, (List.nodup_cons.mpr ⟨List.not_mem_nil, List.nodup_nil⟩), fun a ha b hb z => by
          rw [List.mem_singleton.mp hb] at z
          rw [z] at ha
          exact h2 ha⟩
    have hm : ∀ k, k ∈ (putK kvs kv.1 kv.2).map (·.1) ↔ (k ∈ kvs.map (·.1) ∨ k = kv.1) := fun k => by
      rw [hk]
      by_cases h2 : kv.1 ∈ kvs.map (·.1)
      · rw [if_pos h2]
        exact ⟨.inl, fun z => z.elim id fun z => by rw [z]; exact h2⟩
      · rw [if_neg h2, List.mem_append, List.mem_singleton]
    obtain ⟨a, b, c⟩ := mergeK_keys more (putK kvs kv.1 kv.2) hn
    rw [e]
    refine ⟨a, fun k hk => ?_, fun k hk => c k ?_⟩
    · rcases b k hk with z | z
      · rcases (hm k).mp z with z | z
        · exact .inl z
        · exact .inr (by rw [z, List.map_cons]; exact List.mem_cons_self ..)
      · exact .inr (by rw [List.map_cons]; exact List.mem_cons_of_mem _ z)
    · rcases hk with z | z
      · exact .inl ((hm k).mpr (.inl z))
      · rw [List.map_cons] at z
        rcases List.mem_cons.mp z with z | z
        · exact .inl ((hm k).mpr (.inr z))
        · exact .inr z
theorem sorted_rise : ∀ {ns : List Int}, ns.Nodup → ns.Pairwise (· ≤ ·) → rise ns = true
  | [], _, _ => rfl
  | [a], _, _ => rfl
  | a :: b :: r, h, g => by
    rw [rise_cons, Bool.and_eq_true, decide_eq_true_eq]
    have h1 := List.nodup_cons.mp h
    have g1 := List.pairwise_cons.mp g
    have := g1.1 b (List.mem_cons_self ..)
    have hne : a ≠ b := fun z => h1.1 (by rw [z]; exact List.mem_cons_self ..)
    exact ⟨by omega, sorted_rise h1.2 g1.2⟩
/-- a pair (number, True) -/
def isGT (d : PyData) : Prop := ∃ i : Int, d = .tuple [.int i, .bool true] ∧ gr i
theorem gt_pairs {K : PySem.W.Frag} {H : Hp} : ∀ {es : List PyData} {xs : List V}, (∀ e ∈ es, isGT e) → Rps K H es xs → ∃ (ps : List Addr) (is : List Int), xs = ps.map V.ref ∧ is.length = es.length ∧ (∀ i ∈ is, gr i) ∧ Paired (fun p kv => SqT K H p [kV kv.1, kv.2]) ps (is.map fun i => ((Sum.inl i : Key), V.bl true))
  | [], xs, _, h => ⟨[], [], by rw [rps_nil.mp h]; rfl, rfl, (fun i hi => by cases hi), .nil⟩
  | e :: es, xs, he, h => by
    obtain ⟨v, r, ex, h1, h2⟩ := rps_cons.mp h
    obtain ⟨i, ei, gi⟩ := he e (List.mem_cons_self ..)
    subst ei
    obtain ⟨a, ys, ev, hs, hr⟩ := rp_tup.mp h1
    obtain ⟨x, y, exy, r1, r2⟩ := rps2 hr
    rw [rp_int.mp r1, rp_bl.mp r2] at exy
    subst exy
    obtain ⟨ps, is, e1, e2, e3, e4⟩ := gt_pairs (fun e he' => he e (List.mem_cons_of_mem _ he')) h2
    refine ⟨a :: ps, i :: is, by rw [ex, ev, e1]; rfl, by rw [List.length_cons, e2]; rfl, fun k hk => ?_, .cons hs e4⟩
    rcases List.mem_cons.mp hk with z | z
    · rw [z]; exact gi
    · exact e3 k z
def isRising (most : Nat) (d : PyData) : Prop := ∃ ns : List Int, d = .tuple (ns.map .int) ∧ rise ns = true ∧ (∀ n ∈ ns, gr n) ∧ ns.length ≤ most ∧ (1 ≤ most → ns ≠ [])
section
variable {W : Wd} {K : PySem.W.Frag} {σ : L2.St} {H : Hp} {te : TE} {many : Nat}
abbrev rTupOf (K : PySem.W.Frag) : List V → Hp → VK → Prop := fun xs H Q => ∃ p ys, xs = [.ref p] ∧ ((SqL K H p ys ∧ ∀ l, H l = none → Q (.ref l) (upd H l (.tup ys))) ∨ (SqT K H p ys ∧ Q (.ref p) H))
abbrev rDictP (K : PySem.W.Frag) : List V → Hp → VK → Prop := fun xs H Q => ∃ (a : Addr) (ps : List Addr) (kvs : List (Key × V)), xs = [.ref a] ∧ SqL K H a (ps.map V.ref) ∧ Paired (fun p kv => SqT K H p [kV kv.1, kv.2]) ps kvs ∧ ∀ p, H p = none → Q (.ref p) (upd H p (.dK (mergeK [] kvs)))
abbrev rSortDI : List V → Hp → VK → Prop := fun xs H Q => ∃ (a : Addr) (kvs : List (Key × V)) (ks : List Int), xs = [.ref a] ∧ Rd H a (.dK kvs) ∧ kvs.map (·.1) = ks.map Sum.inl ∧ ks.length < 64 ∧ ∀ (ys : List Int) (p : Addr), ys.Perm ks → ys.Pairwise (· ≤ ·) → H p = none → Q (.ref p) (upd H p (.lst (ys.map V.int)))
/-- tuple(sorted(dict([(n, True), ..]))) -/
theorem ev_sortedGT (h : EvP te σ H (VP.la W K isGT many)) (hm : many < 60) : EvX W K (tCB (rTupOf K) (tCons (tCB rSortDI (tCons (tCB (rDictP K) (tCons te tNil)) tNil)) tNil)) σ H (isRising many) := fun H0 x00 Q kk => by
  refine h H0 x00 _ fun v H1 x1 ⟨es, hl, he, p, xs, ev, hp, np, hrs⟩ => ?_
  obtain ⟨ps, is, ex, hil, hig, hpair⟩ := gt_pairs he hrs
  subst ev
  refine ⟨p, ps, _, rfl, by rw [← ex]; exact SqL.of hp, hpair, fun p2 hp2 => ?_⟩
  obtain ⟨k1, k2, k3⟩ := mergeK_keys (is.map fun i => ((Sum.inl i : Key), V.bl true)) [] List.nodup_nil
  generalize hmk : mergeK [] (is.map fun i => ((Sum.inl i : Key), V.bl true)) = kvs at k1 k2 k3
  have hll := length_mergeK (is.map fun i => ((Sum.inl i : Key), V.bl true)) []
  rw [hmk, List.length_map, List.length_nil] at hll
  have hkeys : ∀ k ∈ kvs.map (·.1), ∃ i ∈ is, k = Sum.inl i := fun k hk => by
    rcases k2 k hk with z | z
    · cases z
    · rw [List.map_map] at z
      obtain ⟨i, hi, e⟩ := List.mem_map.mp z
      exact ⟨i, hi, e.symm⟩
  obtain ⟨ks, hks⟩ : ∃ ks : List Int, kvs.map (·.1) = ks.map Sum.inl := by
    generalize kvs.map (·.1) = l at hkeys
    clear k1 k2 k3
    induction l with
    | nil => exact ⟨[], rfl⟩
    | cons a r ih =>
      obtain ⟨ks, e⟩ := ih fun k hk => hkeys k (List.mem_cons_of_mem _ hk)
      obtain ⟨i, _, ei⟩ := hkeys a (List.mem_cons_self ..)
      exact ⟨i :: ks, by rw [ei, e]; rfl⟩
  have hkl : ks.length = kvs.length := by
    have := congrArg List.length hks
    rw [List.length_map, List.length_map] at this
    exact this.symm
  have hkn : ks.Nodup := by
    rw [hks] at k1
    exact (List.pairwise_map.mp k1).imp fun h e => h (by rw [e])
  have hkg : ∀ n ∈ ks, gr n := fun n hn => by
    obtain ⟨i, hi, e⟩ := hkeys (Sum.inl n) (by rw [hks]; exact List.mem_map_of_mem hn)
    injection e with e
    rw [e]
    exact hig i hi
  refine ⟨p2, kvs, ks, rfl, Rd.of upd_same, hks, by omega, fun ys p3 hperm hsort hp3 => ?_⟩
  have hys : ys.Nodup := (hperm.nodup_iff).mpr hkn
  have hrise := sorted_rise hys hsort
  refine ⟨p3, ys.map V.int, rfl, .inl ⟨SqL.of upd_same, fun l hl4 => ?_⟩⟩
  have y1 := Wx.new (W := W) (o := .dK kvs) x1.2.1 hp2
  have y2 := Wx.new (W := W) (o := .lst (ys.map V.int)) y1.2.1 hp3
  have y3 := Wx.new (W := W) (o := .tup (ys.map V.int)) y2.2.1 hl4
  refine kk _ _ ?_ ⟨.tuple (ys.map .int), ⟨ys, rfl, hrise, fun n hn => hkg n (hperm.mem_iff.mp hn), ?_, fun h1 z => ?_⟩, rp_tup.mpr ⟨l, _, rfl, SqT.of upd_same, Rps.ints ys⟩⟩
  · exact x1.trans (y1.trans (y2.trans y3))
  · have := hperm.length_eq
    omega
  · have hkz : ks = [] := by
      rw [z] at hperm
      exact hperm.nil_eq.symm
    have hne : is ≠ [] := fun z2 => by
      rw [z2] at hil
      simp at hil
      omega
    cases his : is with
    | nil => exact hne his
    | cons i r =>
      have := k3 (Sum.inl i) (.inr (by rw [his]; simp))
      rw [hks, hkz] at this
      cases this
end
section
variable {P : Program} {w : World} {K : PySem.W.Frag} {mg : Str → Option Value} {base : Heap} {TT : List NTab}
theorem cd__law_rising_drawn (T : Tx K mg) : Cd P w K mg base CX0 4 "_law_rising_drawn" (SpJ K TT fun ds Pd => ∃ many : Nat, ds = [.int (many : Nat)] ∧ Pd = isRising many ∧ many < 60) := by
  refine cd_of (k := 3) T.d__law_rising_drawn sc__law_rising_drawn (fun _ _ _ _ _ _ us hl => match us, hl with | [_, _], _ => rfl) (SpJ.len fun ds r h => by obtain ⟨_, e, _⟩ := h; rw [e]; rfl) ?_
  intro f cdv A outer s H vs Q E hr ⟨j, us, ds, Pd, e, g, hs, ⟨many, e1, e2, hm⟩, kk⟩
  subst e e1 e2
  obtain ⟨v1, e, r1⟩ := rps1 hs
  subst e
  refine ⟨_, (pss_one (ps_ret (pe_callTy (kTupOf K) (by rfl) T.n_tuple (by decide +kernel) (pa_cons (pe_callB (call_sortedDI rfl) (by rfl) T.n_sorted (by decide +kernel) (pa_cons (pe_callTy (call_dictP rfl) (by rfl) T.n_dict (by decide +kernel) (pa_cons (pe_lc (own := [("go", 2)]) rfl sc__law_rising_drawn.nd (pi_range1 (by rfl) T.n_range (pa_cons (pv 1) pa_nil)) (blkOk_by (N := N__law_rising_drawn) (sc := defScope s__law_rising_drawn) (by decide +kernel)) (fun _ _ _ _ _ => (pg_name (i := 2) sc__law_rising_drawn.nd rfl (Or.inl rfl))) (fun _ _ _ _ _ => pts_nil) (fun _ _ _ _ _ => (pe_tup (pa_cons (pe_d (cd__law_great_drawn (TT := TT) T) hr (by decide) (pa_cons (pv 0) pa_nil)) (pa_cons pe_bl pa_nil))))) pa_nil)) pa_nil)) pa_nil)))), ?_⟩
  have x0 : Wx (GW TT j) H H := Wx.refl g
  have hlc : EvP (W := GW TT j) _ [some (.ref j), some v1, none] H (VP.la (GW TT j) K isGT (rngD 0 ((many : Nat) : Int).toNat).length) := el_lcP (i := 2) (vs := [2]) (te := tTup (tCons (tCall (SpJ K TT fun ds Pd => ds = [] ∧ Pd = isGreat) [] E0 (tCons (tVar 0) tNil)) (tCons (tC (.bl true)) tNil))) (src_range1 (ev_var (i := 1) rfl r1) (by omega) (by omega)) (by unfold rngD; rw [List.length_map, List.length_range]; omega) fun d _ H1 x x1 r => by
    intro H2 x2 Q k
    refine (ev_callJ (TT := TT) (j := j) (i := 0) rfl ea_nil ⟨rfl, rfl⟩) H2 x2 _ fun v H3 x3 ⟨d3, h3, r3⟩ => ?_
    obtain ⟨n, en, hn⟩ := great_gr h3
    subst en
    refine ⟨(by decide : 2 ≤ sizeLine), fun p hp => k _ _ (x3.trans (Wx.new x3.2.1 hp)) ⟨_, ⟨n, rfl, hn⟩, rp_tup.mpr ⟨p, _, rfl, SqT.of upd_same, (Wx.new x3.2.1 hp).rps (rps_cons.mpr ⟨v, [.bl true], rfl, r3, Rps.one (rp_bl.mpr rfl)⟩)⟩⟩⟩
  have hlen : (rngD 0 ((many : Nat) : Int).toNat).length = many := by
    unfold rngD
    rw [List.length_map, List.length_range]
    omega
  rw [hlen] at hlc
  exact retJ kk x0 (ev_sortedGT hlc hm)
end
end Fd
-- J5
namespace Fd
open PySem PySem.Spec PyProof.Rows L2 LamX NdefX
/-- a world with lists of one's own besides, that a loop writes -/
def WL (W : Wd) (ps : List Addr) : Wd := ⟨fun b => W.M b ∨ b ∈ ps, fun H => W.J H ∧ ∀ p ∈ ps, ∃ xs, H p = some (.lst xs), fun H H' ⟨g, l⟩ h => ⟨W.st H H' g fun b o e n => h b o e fun z => .inl (n z), fun p hp => by
    obtain ⟨xs, e⟩ := l p hp
    exact ⟨xs, h p _ e fun _ => .inr hp⟩⟩, fun H b ⟨g, l⟩ m => by
    rcases m with m | m
    · exact W.nm H b g m
    · obtain ⟨xs, e⟩ := l b m
      exact ⟨_, e, fun xs z => (by cases z), fun ob u z => (by cases z)⟩⟩
section
variable {W : Wd} {ps : List Addr} {H0 H H1 H' : Hp} {K : PySem.W.Frag}
theorem wl_back (x : Wx W H0 H) (hn : ∀ p ∈ ps, H0 p = none) (y : Wx (WL W ps) H H') : Wx W H0 H' := ⟨x.1, y.2.1.1, fun b o e n => y.2.2 b o (x.2.2 b o e n) fun z => z.elim n fun z => by
  rw [hn b z] at e
  cases e⟩
theorem wl_of (x : Wx W H H') (l : ∀ p ∈ ps, ∃ xs, H p = some (.lst xs)) (hm : ∀ p ∈ ps, ¬ W.M p) : Wx (WL W ps) H H' := ⟨⟨x.1, l⟩, ⟨x.2.1, fun p hp => by
  obtain ⟨xs, e⟩ := l p hp
  exact ⟨xs, x.2.2 p _ e (hm p hp)⟩⟩, fun b o e n => x.2.2 b o e fun z => n (.inl z)⟩
/-- one of the lists is written -/
theorem wl_upd {p : Addr} {ys : List V} (g : (WL W ps).J H) (hp : p ∈ ps) (hm : ¬ W.M p) : Wx (WL W ps) H (upd H p (.lst ys)) := by
  obtain ⟨xs, e⟩ := g.2 p hp
  refine ⟨g, ⟨J.mut g.1 e rfl hm, fun q hq => ?_⟩, fun b o eb n => ?_⟩
  · by_cases z : q = p
    · exact ⟨ys, by rw [z]; exact upd_same⟩
    · obtain ⟨zs, e2⟩ := g.2 q hq
      exact ⟨zs, by rw [upd_ne z]; exact e2⟩
  · rw [upd_ne fun z => n (.inr (by rw [z]; exact hp))]
    exact eb
end
theorem eraseMap {α β : Type} (f : α → β) : ∀ (l : List α) (k : Nat), (l.map f).eraseIdx k = (l.eraseIdx k).map f
  | [], k => by cases k <;> rfl
  | a :: l, 0 => rfl
  | a :: l, k + 1 => by
    show f a :: (l.map f).eraseIdx k = f a :: (l.eraseIdx k).map f
    rw [eraseMap f l k]
theorem erasePerm {α : Type} : ∀ (l : List α) (k : Nat) (h : k < l.length), (l[k] :: l.eraseIdx k).Perm l
  | [], k, h => absurd h (Nat.not_lt_zero _)
  | a :: l, 0, h => List.Perm.refl _
  | a :: l, k + 1, h => by
    have h' : k < l.length := by simpa using h
    show (l[k] :: a :: l.eraseIdx k).Perm (a :: l)
    exact (List.Perm.swap _ _ _).trans ((erasePerm l k h').cons a)
/-- for i in range(lo, hi): a body that may write whatever it told -/
theorem st_forR {W : Wd} {K : PySem.W.Frag} {H : Hp} {σ : L2.St} {te : TE} {D : Ends} {tb : TS} {i : Nat} {n : Int} (jw : W.J H) (h : Ev W K te σ H (.int n)) (hn1 : -(2 ^ 62) ≤ n) (hn : n < 2 ^ 62) (Inv : Nat → L2.St → Hp → Prop) (h0 : ∀ H1, Wx W H H1 → Inv 0 σ H1)
    (hst : ∀ k σ1 H1, k < n.toNat → Inv k σ1 H1 → tb { D with nx := fun σ' H' => Inv (k + 1) σ' H', ct := fun σ' H' => Inv (k + 1) σ' H', bk := D.nx } (σ1.set i (some (.int (k : Nat)))) H1) (hd : ∀ σ' H', Inv n.toNat σ' H' → D.nx σ' H') : tFor (iRng1 (tCons te tNil)) (gName i) tb D σ H :=
  h.run jw fun v H2 x2 hv => ⟨n, by rw [rp_int.mp hv], hn1, hn, by
    refine for_it (g := gName i) (tb := tb) (D := D) (σ := σ) (H := H2) (walk_range (lo := 0) (n := n.toNat)) Inv (h0 H2 x2) (fun k σ' H' _ _ => trivial) (fun k x σ' H' H3 hk hI hy => ?_) fun σ' H' hI => hd σ' H' hI
    obtain ⟨e1, e2⟩ := hy
    subst e1
    have e3 : x = .int (k : Nat) := by
      rw [e2]
      show V.int (0 + (k : Nat)) = _
      rw [Int.zero_add]
    subst e3
    exact hst k σ' _ hk hI⟩
/-- _law_mixed(jar, things): the same numbers in some order -/
def spMixed (K : PySem.W.Frag) (TT : List NTab) : Sp := fun vs H Q _ => ∃ (j p : Addr) (ns : List Int), vs = [.ref j, .ref p] ∧ (GW TT j).J H ∧ H p = some (.lst (ns.map .int)) ∧ ¬ (GW TT j).M p ∧ ns.length < 1000 ∧
  ∀ (q : Addr) (ms : List Int) H', ms.Perm ns → Wx (GW TT j) H H' → H q = none → H' q = some (.lst (ms.map .int)) → Q (.ref q) H'
section
variable {P : Program} {w : World} {K : PySem.W.Frag} {mg : Str → Option Value} {base : Heap} {TT : List NTab}
theorem cd__law_mixed (T : Tx K mg) : Cd P w K mg base CX0 2 "_law_mixed" (spMixed K TT) := by
  refine cd_of (k := 1) T.d__law_mixed sc__law_mixed (fun _ _ _ _ _ _ us hl => match us, hl with | [_, _], _ => rfl) (fun vs H Q E h => by obtain ⟨_, _, _, e, _⟩ := h; rw [e]; rfl) ?_
  intro f cdv A outer s H vs Q E hr ⟨j, p, ns, e, g, hp, hpm, hl, kk⟩
  subst e
  refine ⟨_, (pss_cons (ps_par (i := 2) (j := 3) rfl sc__law_mixed.nd rfl rfl (by decide) rfl rfl (pa_cons (pe_callTy (kLstOf K) (by rfl) T.n_list (by decide +kernel) (pa_cons (pv 1) pa_nil)) (pa_cons (pe_lst pa_nil) pa_nil)) (by rfl))
    (pss_cons (ps_for PassesOwn.never rfl (pi_range1 (by rfl) T.n_range (pa_cons (pe_callB (kLen K) (by rfl) T.n_len PySem.boot_len (pa_cons (pv 1) pa_nil)) pa_nil)) (pg_name (i := 4) sc__law_mixed.nd rfl (Or.inl rfl))
      (pss_one (ps_expr (pe_bm PySem.F.plainAttrs_list PySem.F.slot_list_append PySem.F.type_list_append mt_append (pv 3) (pa_cons (pe_bm PySem.F.plainAttrs_list PySem.F.slot_list_pop PySem.F.type_list_pop mt_popAt (pv 2) (pa_cons (pe_d (cd__law_take T) hr (by decide) (pa_cons (pv 0) (pa_cons (pe_callB (kLen K) (by rfl) T.n_len PySem.boot_len (pa_cons (pv 2) pa_nil)) pa_nil))) pa_nil)) pa_nil)))))
    (pss_one (ps_ret (pv 3))))), ?_⟩
  have x0 : Wx (GW TT j) H H := Wx.refl g
  refine ⟨.ref p, rfl, p, ns.map .int, rfl, .inl (SqL.of hp), fun a ha => ?_⟩
  have xa := Wx.new (W := GW TT j) (o := .lst (ns.map .int)) g ha
  refine ⟨(by decide), fun b hb => ⟨.ref a, .ref b, rfl, ?_⟩⟩
  have hab : b ≠ a := fun z => by
    rw [z, upd_same] at hb
    cases hb
  have xb := Wx.new (W := GW TT j) (o := .lst []) xa.2.1 hb
  have xab := xa.trans xb
  have na : ¬ (GW TT j).M a := Wx.nM g ha
  have hb0 : H b = none := by rw [upd_ne hab] at hb; exact hb
  have nb : ¬ (GW TT j).M b := Wx.nM g hb0
  have hnew : ∀ q ∈ [a, b], H q = none := fun q hq => by
    rcases List.mem_cons.mp hq with z | z
    · rw [z]; exact ha
    · rw [List.mem_singleton.mp z]; exact hb0
  have hnm : ∀ q ∈ [a, b], ¬ (GW TT j).M q := fun q hq => Wx.nM g (hnew q hq)
  generalize hH2 : upd (upd H a (.lst (ns.map .int))) b (.lst []) = H2 at xb xab
  have ga : H2 a = some (.lst (ns.map .int)) := by rw [← hH2, upd_ne (Ne.symm hab), upd_same]
  have gb : H2 b = some (.lst (([] : List Int).map V.int)) := by rw [← hH2, upd_same]; rfl
  have jl : (WL (GW TT j) [a, b]).J H2 := ⟨xab.2.1, fun q hq => by
    rcases List.mem_cons.mp hq with z | z
    · exact ⟨_, by rw [z]; exact ga⟩
    · exact ⟨_, by rw [List.mem_singleton.mp z]; exact gb⟩⟩
  have npab : p ∉ [a, b] := fun m => by
    have := hnew p m
    rw [hp] at this
    cases this
  have gp : H2 p = some (.lst (ns.map .int)) := xab.2.2 _ _ hp hpm
  have tyA : ∀ {H : Hp} {q : Addr} {xs : List V}, H q = some (.lst xs) → tyV K "list" (.ref q) H := fun e => .inl ⟨rfl, _, SqL.of e⟩
  refine st_forR (W := GW TT j) (D := { nx := _, rt := _ }) (i := 4) xab.2.1 (ev_len (evp_var (p := VP.s (GW TT j) K (ns.map .int)) (i := 1) rfl ⟨p, _, rfl, .inl ⟨SqL.of gp, hpm⟩, Rps.ints ns⟩)) (by omega) (by rw [List.length_map]; omega) (fun i σ H3 => ∃ (ls fs : List Int) (o4 : Option V), σ = [some (.ref j), some (.ref p), some (.ref a), some (.ref b), o4] ∧ Wx (GW TT j) H H3 ∧ H3 a = some (.lst (ls.map .int)) ∧ H3 b = some (.lst (fs.map .int)) ∧ (ls ++ fs).Perm ns ∧ ls.length + i = ns.length)
    (fun H3 x3 => ⟨ns, [], none, rfl, xab.trans x3, x3.2.2 _ _ ga na, x3.2.2 _ _ gb nb, by rw [List.append_nil], rfl⟩) (fun i σ1 H3 hi hI => ?_) fun σ1 H3 ⟨ls, fs, o4, e1, g3, h1, h2, h3, h4⟩ => ?_
  · obtain ⟨ls, fs, o4, e1, g3, h1, h2, h3, h4⟩ := hI
    subst e1
    have hi' : i < ns.length := by
      rw [List.length_map] at hi
      omega
    refine ⟨_, rfl, tyA h2, _, rfl, tyA h1, ?_⟩
    refine (ev_take (TT := TT) (j := j) (i := 0) rfl (ev_len (evp_var (p := VP.s (GW TT j) K (ls.map .int)) (i := 2) rfl ⟨a, _, rfl, .inl ⟨SqL.of h1, na⟩, Rps.ints ls⟩)) (by rw [List.length_map]; omega) (by rw [List.length_map]; omega)).run (W := GW TT j) g3.2.1 fun v H4 x4 ⟨d, ⟨k, ek, k0, k1⟩, r⟩ => ?_
    subst ek
    have ev := rp_int.mp r
    subst ev
    rw [List.length_map] at k1
    have hk : k.toNat < ls.length := by omega
    have h1' := x4.2.2 _ _ h1 na
    have h2' := x4.2.2 _ _ h2 nb
    refine ⟨a, ls.map .int, k, k.toNat, .int ls[k.toNat], rfl, rfl, h1', by omega, by omega, ?_, ?_, ?_⟩
    · rw [List.length_map]
      exact seqIndex_of k0 (by omega)
    · rw [List.getElem?_map, List.getElem?_eq_getElem hk]
      rfl
    · have hba : b ≠ a := hab
      refine ⟨b, fs.map .int, .int ls[k.toNat], rfl, rfl, by rw [upd_ne hba]; exact h2', ?_, ls.eraseIdx k.toNat, fs ++ [ls[k.toNat]], some (.int (i : Nat)), rfl, ?_, ?_, ?_, ?_, ?_⟩
      · rw [List.length_map]
        have := h3.length_eq
        rw [List.length_append] at this
        exact sz_lt (by omega)
      · have y1 := Wx.mut (g3.trans x4) (o' := .lst ((ls.map V.int).eraseIdx k.toNat)) ha h1' rfl
        exact Wx.mut y1 hb0 (by rw [upd_ne hba]; exact h2') rfl
      · rw [upd_ne (Ne.symm hba), upd_same]
        rw [eraseMap]
      · rw [upd_same, List.map_append]
        rfl
      · have p1 : (ls[k.toNat] :: ls.eraseIdx k.toNat).Perm ls := erasePerm _ _ hk
        have p2 : (ls.eraseIdx k.toNat ++ (fs ++ [ls[k.toNat]])).Perm (ls ++ fs) := by
          refine List.Perm.trans ?_ (p1.append_right fs)
          rw [← List.append_assoc]
          exact (List.perm_append_comm).trans (List.Perm.refl _)
        exact p2.trans h3
      · rw [List.length_eraseIdx_of_lt hk]
        omega
  · subst e1
    have hln : ((((ns.map PyData.int).length : Nat) : Int)).toNat = ns.length := by
      rw [List.length_map]
      omega
    rw [hln] at h4
    have hls : ls = [] := List.eq_nil_of_length_eq_zero (by omega)
    subst hls
    exact ⟨.ref b, rfl, kk b fs H3 h3 g3 hb0 h2⟩
end
end Fd
-- LR3
namespace Fd
open PySem PySem.Spec PyProof.Rows L2
/-- for i in range(lo, hi): a body that may write whatever it told -/
theorem st_forR2 {W : Wd} {K : PySem.W.Frag} {H : Hp} {σ : L2.St} {ta te : TE} {D : Ends} {tb : TS} {i : Nat} {lo n : Int} (jw : W.J H) (h1 : Ev W K ta σ H (.int lo)) (h : Ev W K te σ H (.int n)) (hb : -(2 ^ 62) ≤ lo ∧ lo < 2 ^ 62 ∧ -(2 ^ 62) ≤ n ∧ n < 2 ^ 62) (Inv : Nat → L2.St → Hp → Prop) (h0 : ∀ H1, Wx W H H1 → Inv 0 σ H1)
    (hst : ∀ k σ1 H1, k < (n - lo).toNat → Inv k σ1 H1 → tb { D with nx := fun σ' H' => Inv (k + 1) σ' H', ct := fun σ' H' => Inv (k + 1) σ' H', bk := D.nx } (σ1.set i (some (.int (lo + (k : Nat))))) H1) (hd : ∀ σ' H', Inv (n - lo).toNat σ' H' → D.nx σ' H') : tFor (iRng2 (tCons ta (tCons te tNil))) (gName i) tb D σ H :=
  h1.run jw fun v1 H1 x1 hv1 => (h.mono x1).run x1.2.1 fun v H2 x2 hv => ⟨lo, n, by rw [rp_int.mp hv1, rp_int.mp hv], hb, by
    refine for_it (g := gName i) (tb := tb) (D := D) (σ := σ) (H := H2) (walk_range (lo := lo) (n := (n - lo).toNat)) Inv (h0 H2 (x1.trans x2)) (fun k σ' H' _ _ => trivial) (fun k x σ' H' H3 hk hI hy => ?_) fun σ' H' hI => hd σ' H' hI
    obtain ⟨e1, e2⟩ := hy
    subst e1 e2
    exact hst k σ' _ hk hI⟩
def resD : List PyData ⊕ Nat → PyData
  | .inl l => .tuple [.tuple l, .none]
  | .inr j => .tuple [.none, .int (j : Nat)]
theorem rawRow_some {l : List Nat} : rawRow l = .none ∨ ∃ (ns : List Int) (n : Int), rawRow l = .tuple [.tuple (ns.map .int), .int n] := by
  unfold rawRow
  cases TL.par [42] [] l with
  | none => exact .inl rfl
  | some ab =>
    dsimp only
    cases numOf ab.1 with
    | none => exact .inl rfl
    | some n =>
      cases pieceOf ab.2 with
      | none => exact .inl rfl
      | some ns => exact .inr ⟨ns, n, rfl⟩
section
variable {P : Program} {w : World} {K : PySem.W.Frag} {mg : Str → Option Value} {base : Heap}
/-- the law's own reading of rows -/
def spTxRows (K : PySem.W.Frag) : Sp := fun vs H Q _ => ∃ (b : Addr) (most : Int) (ws : List (List Nat)), vs = [.ref b, .int most] ∧ H b = some (.lst (wordsV ws)) ∧ (∀ w ∈ ws, w.length ≤ 1000000) ∧ ws.length ≤ 1000000 ∧ 1 ≤ ws.length ∧
  ∀ v H', Same H H' → Rp K H' (resD (partsGo (rowOf (most + 1)) 3000 rowAdj [] 1 (ws.drop 1))) v → Q v H'
theorem cd__law_tx_rows (T : Tx K mg) : Cd P w K mg base CX0 5 "_law_tx_rows" (spTxRows K) := by
  refine cd_of (k := 5 - 1) T.d__law_tx_rows sc__law_tx_rows (fun _ _ _ _ _ _ us hl => match us, hl with | [_, _], _ => rfl) (fun vs H Q E h => by obtain ⟨_, _, _, e, _⟩ := h; rw [e]; rfl) ?_
  intro f cdv A outer s H vs Q E hr ⟨b, most, ws, e, hb, hw, hz, h1, kk⟩
  subst e
  refine ⟨_, (pss_cons (ps_set (i := 2) sc__law_tx_rows.nd rfl (Or.inl rfl) (pe_lst pa_nil))
    (pss_cons (ps_for PassesOwn.never rfl (pi_range2 (by rfl) T.n_range (pa_cons pe_int (pa_cons (pe_callB (kLen K) (by rfl) T.n_len PySem.boot_len (pa_cons (pv 0) pa_nil)) pa_nil))) (pg_name (i := 3) sc__law_tx_rows.nd rfl (Or.inl rfl))
      (pss_cons (ps_set (i := 4) sc__law_tx_rows.nd rfl (Or.inl rfl) (pe_d (cd__law_tx_row T) hr (by decide) (pa_cons (pe_ix (ixL K) (pv 0) (pv 3) (fun _ _ => rfl)) pa_nil)))
      (pss_cons (ps_if (PW.pt (pw_or (pt_cmpR op_isN (pv 4) pe_non (nomark _)) (pw_or (pt_cmpR op_eq (pe_callB (kLen K) (by rfl) T.n_len PySem.boot_len (pa_cons (pv 2) pa_nil)) pe_int (nomark _)) (pw_or1 (pt_not (pt_chain op_le op_le pe_int (pe_ix (ixT K) (pv 4) pe_int (fun _ _ => rfl)) (pv 1)))))))
        (pss_one (ps_ret (pe_tup (pa_cons pe_non (pa_cons (pv 3) pa_nil))))) pss_nil)
      (pss_cons (ps_if (PW.pt (pw_and (pt_cmpR (op_ne0 hr.units0) (pv 2) (pe_lst pa_nil) (nomark _)) (pw_and1 (PW.pt (pw_or (pt_cmpR op_ne (pe_callB (kLen K) (by rfl) T.n_len PySem.boot_len (pa_cons (pe_ix (ixT K) (pv 4) pe_int (fun _ _ => rfl)) pa_nil)) (pe_callB (kLen K) (by rfl) T.n_len PySem.boot_len (pa_cons (pe_ix (ixT K) (pe_ix (ixL K) (pv 2) pe_int (fun _ _ => rfl)) pe_int (fun _ _ => rfl)) pa_nil)) (nomark _)) (pw_or1 (pt_cmpR (op_leT hr.units0) (pe_ix (ixT K) (pv 4) pe_int (fun _ _ => rfl)) (pe_ix (ixT K) (pe_ix (ixL K) (pv 2) (pe_un un_neg pe_int) (fun _ _ => rfl)) pe_int (fun _ _ => rfl)) (nomark _))))))))
        (pss_one (ps_ret (pe_tup (pa_cons pe_non (pa_cons (pv 3) pa_nil))))) pss_nil)
      (pss_one (ps_expr (pe_bm PySem.F.plainAttrs_list PySem.F.slot_list_append PySem.F.type_list_append mt_append (pv 2) (pa_cons (pv 4) pa_nil))))))))
    (pss_one (ps_ret (pe_tup (pa_cons (pe_callTy (kTupOf K) (by rfl) T.n_tuple (by decide +kernel) (pa_cons (pv 2) pa_nil)) (pa_cons pe_non pa_nil))))))), ?_⟩
  generalize hR : partsGo (rowOf (most + 1)) 3000 rowAdj [] 1 (ws.drop 1) = R at kk
  refine ⟨(by decide), fun pf hn => ?_⟩
  have xb := Wx.new (W := W0) (o := .lst []) trivial hn
  have bE : ∀ {H3} {σ : L2.St} {i : Nat}, Wx W0 H H3 → σ[i]? = some (some (.ref b)) → EvP (tVar i) σ H3 (VP.s W0 K (ws.map fun l => .str (S l))) := fun x e => evp_var e ⟨b, _, rfl, .inl ⟨SqL.of (x.2.2 _ _ hb fun z => z), fun z => z⟩, rps_words K _ ws⟩
  have hlw : ((ws.map fun l => PyData.str (S l)).length : Int) = ws.length := by rw [List.length_map]
  refine st_forR2 (W := W0) (D := { nx := _, rt := _ }) (i := 3) trivial ev_int (ev_len (bE xb rfl)) (by rw [hlw]; omega) (fun i σ H3 => ∃ (ds : List PyData) (xs : List V) (o3 o4 : Option V), σ = [some (.ref b), some (.int most), some (.ref pf), o3, o4] ∧ Wx W0 H H3 ∧ H3 pf = some (.lst xs) ∧ Rps K H3 ds xs ∧ ds.length ≤ i ∧ ds.length ≤ 3000 ∧
      (∀ d ∈ ds, ∃ (ns : List Int) (n : Int), d = .tuple [.tuple (ns.map .int), .int n] ∧ ns.length = lenD (fstD (ds.headD .none))) ∧ partsGo (rowOf (most + 1)) 3000 rowAdj ds (1 + i) (ws.drop (1 + i)) = R)
    (fun H3 x3 => ⟨[], [], none, none, rfl, xb.trans x3, x3.2.2 _ _ upd_same (fun z => z), rps_nil.mpr rfl, Nat.zero_le _, Nat.zero_le _, (fun d hd => by cases hd), hR⟩) (fun i σ1 H3 hi hI => ?_) fun σ1 H3 ⟨ds, xs, o3, o4, e1, x3, g1, g2, g3, g4, g5, g6⟩ => ?_
  · obtain ⟨ds, xs, o3, o4, e1, x3, g1, g2, g3, g4, g5, g6⟩ := hI
    subst e1
    have hi' : 1 + i < ws.length := by
      rw [hlw] at hi
      omega
    have hwl := hw _ (List.getElem_mem hi')
    rw [drop_at hi'] at g6
    refine set0 K (ev_call (ea_cons (ev_ixL (j := 1 + i) (bE x3 rfl) (ev_var rfl (rp_int.mpr rfl)) (by have := ixN_nat (n := (ws.map fun l => PyData.str (S l)).length) (j := 1 + i) (by rw [List.length_map]; exact hi'); rw [show (((1 + i : Nat)) : Int) = 1 + (i : Nat) by omega] at this; exact this) (by rw [List.getElem?_map, List.getElem?_eq_getElem hi']; rfl)) ea_nil) ⟨_, rfl, rfl, hwl⟩) fun v4 H4 x4 r4 => ?_
    have x34 := x3.trans x4
    have f1 : H4 pf = some (.lst xs) := x4.2.2 _ _ g1 fun z => z
    have f2 := x4.rps g2
    have fE : ∀ {H5} {σ : L2.St}, Wx W0 H4 H5 → σ[2]? = some (some (.ref pf)) → EvL W0 K (tVar 2) σ H5 ds := fun x e => evp_var e ⟨pf, xs, rfl, x.2.2 _ _ f1 (fun z => z), (fun z => z), x.rps f2⟩
    have bad : ∀ {D : Ends} {H5}, D.rt = Q → Wx W0 H H5 → R = .inr (1 + i) → (tRet (tTup (tCons (tC .non) (tCons (tVar 3) tNil))) D [some (.ref b), some (.int most), some (.ref pf), some (.int (1 + (i : Nat))), some v4] H5) := fun hD x5 eR => by
      refine ret0 (hD := hD) kk x5 (ev_tup (ea_cons ev_non (ea_cons (ev_var (d := .int (1 + (i : Nat))) rfl (rp_int.mpr rfl)) ea_nil)) (by simp)) ?_
      rw [eR]
      show _ = PyData.tuple [.none, .int ((1 + i : Nat) : Int)]
      rw [show ((1 + i : Nat) : Int) = 1 + (i : Nat) by omega]
    have g6' : (if (!isNone (rowOf (most + 1) ws[1 + i]) && decide (ds.length < 3000) && fits rowAdj ds (rowOf (most + 1) ws[1 + i])) = true then partsGo (rowOf (most + 1)) 3000 rowAdj (ds ++ [rowOf (most + 1) ws[1 + i]]) (1 + i + 1) (ws.drop (1 + i + 1)) else .inr (1 + i)) = R := g6
    rcases rawRow_some (l := ws[1 + i]) with hraw | ⟨ns, n, hraw⟩
    · have hrow : rowOf (most + 1) ws[1 + i] = .none := by rw [rowOf_raw, hraw]
      rw [hraw] at r4
      rw [hrow] at g6'
      exact if0 (et_or (b := false) (et_of (ev_isN (ev_var rfl r4) ev_non)) fun h => by cases h) (fun _ H5 x5 => bad rfl (x34.trans x5) g6'.symm) fun hb => by cases hb
    · rw [hraw] at r4
      have hrow : rowOf (most + 1) ws[1 + i] = if (decide (1 ≤ n) && decide (n < most + 1)) = true then .tuple [.tuple (ns.map .int), .int n] else .none := by rw [rowOf_raw, hraw]
      refine if0 (et_or (et_of (ev_isN (ev_var rfl r4) ev_non)) fun _ => et_or (et_of (ev_eqI (ev_len (es_of_l (fE x0 rfl))) ev_int)) fun _ => et_not (et_of (ev_chain ev_int (ev_at (j := 1) (ev_var rfl r4) rfl) rv_B0 (fun _ => ev_var (d := .int most) rfl (rp_int.mpr rfl)) rv_B0))) (fun hb H5 x5 => ?_) fun hb H5 x5 => ?_
      · refine bad rfl (x34.trans x5) ?_
        have hb' : (decide ((ds.length : Int) = 3000) || !(decide (1 ≤ n) && decide (n ≤ most))) = true := hb
        rw [← g6', if_neg]
        intro hc
        rw [Bool.and_eq_true, Bool.and_eq_true, Bool.not_eq_true', decide_eq_true_eq, hrow] at hc
        rw [Bool.or_eq_true, decide_eq_true_eq, Bool.not_eq_true'] at hb'
        rcases hb' with z | z
        · omega
        · have : (decide (1 ≤ n) && decide (n < most + 1)) = false := by
            rw [← z]
            congr 1
            exact decide_eq_decide.mpr (by omega)
          rw [this, if_neg Bool.false_ne_true] at hc
          have := hc.1.1
          cases this
      · have hb' : (decide ((ds.length : Int) = 3000) || !(decide (1 ≤ n) && decide (n ≤ most))) = false := hb
        rw [Bool.or_eq_false_iff, decide_eq_false_iff_not, Bool.not_eq_false', Bool.and_eq_true, decide_eq_true_eq, decide_eq_true_eq] at hb'
        rw [if_pos (by rw [Bool.and_eq_true, decide_eq_true_eq, decide_eq_true_eq]; omega)] at hrow
        have hl3 : ds.length < 3000 := by omega
        rw [hrow, decide_eq_true hl3] at g6'
        have x35 := x34.trans x5
        have r45 := x5.rp r4
        have f15 : H5 pf = some (.lst xs) := x5.2.2 _ _ f1 fun z => z
        have f25 := x5.rps f2
        have fin : ∀ {D : Ends} {H6}, Wx W0 H5 H6 → fits rowAdj ds (.tuple [.tuple (ns.map .int), .int n]) = true → (∀ H', (∃ (ds : List PyData) (xs : List V) (o3 o4 : Option V), [some (V.ref b), some (.int most), some (.ref pf), some (.int (1 + (i : Nat))), some v4] = [some (.ref b), some (.int most), some (.ref pf), o3, o4] ∧ Wx W0 H H' ∧ H' pf = some (.lst xs) ∧ Rps K H' ds xs ∧ ds.length ≤ i + 1 ∧ ds.length ≤ 3000 ∧
            (∀ d ∈ ds, ∃ (ns : List Int) (n : Int), d = .tuple [.tuple (ns.map .int), .int n] ∧ ns.length = lenD (fstD (ds.headD .none))) ∧ partsGo (rowOf (most + 1)) 3000 rowAdj ds (1 + (i + 1)) (ws.drop (1 + (i + 1))) = R) → D.nx [some (.ref b), some (.int most), some (.ref pf), some (.int (1 + (i : Nat))), some v4] H') →
            tDrop (tBM K "list" rAppend (tVar 2) (tCons (tVar 4) tNil)) D [some (.ref b), some (.int most), some (.ref pf), some (.int (1 + (i : Nat))), some v4] H6 := fun {D H6} x6 hf kN => by
          have f16 : H6 pf = some (.lst xs) := x6.2.2 _ _ f15 fun z => z
          have f26 := x6.rps f25
          have r46 := x6.rp r45
          refine ⟨_, rfl, .inl ⟨rfl, xs, SqL.of f16⟩, v4, rfl, pf, xs, v4, rfl, rfl, f16, ?_, kN _ ⟨ds ++ [.tuple [.tuple (ns.map .int), .int n]], xs ++ [v4], _, _, rfl, Wx.mut (x35.trans x6) hn f16 rfl, upd_same, ?_, ?_, ?_, ?_, ?_⟩⟩
          · have := f26.len
            exact sz_lt (by omega)
          · have kt : KeepT H6 (upd H6 pf (.lst (xs ++ [v4]))) := KeepT.mut f16 rfl
            exact (Rps.mono kt _ _ f26).app (Rps.one (Rp.mono kt _ _ r46))
          · rw [List.length_append]
            exact Nat.succ_le_succ g3
          · rw [List.length_append]
            exact hl3
          · have hlen : ns.length = lenD (fstD ((ds ++ [PyData.tuple [.tuple (ns.map .int), .int n]]).headD .none)) := by
              cases hds : ds with
              | nil =>
                show _ = (ns.map PyData.int).length
                rw [List.length_map]
              | cons c r =>
                rw [hds] at hf g5
                obtain ⟨l, hl⟩ : ∃ l, (c :: r).getLast? = some l := ⟨_, List.getLast?_eq_some_getLast (List.cons_ne_nil _ _)⟩
                obtain ⟨ms, m, el, hm⟩ := g5 l (List.mem_of_getLast? hl)
                unfold fits at hf
                rw [hl, el] at hf
                have hf' : (decide ((ns.map PyData.int).length = (ms.map PyData.int).length) && HT.lexLt (keyOf (.tuple [.tuple (ms.map .int), .int m])) (keyOf (.tuple [.tuple (ns.map .int), .int n]))) = true := hf
                rw [Bool.and_eq_true, decide_eq_true_eq, List.length_map, List.length_map] at hf'
                rw [hf'.1]
                exact hm
            intro e he
            rcases List.mem_append.mp he with z | z
            · obtain ⟨ms, m, em, hm⟩ := g5 e z
              refine ⟨ms, m, em, ?_⟩
              cases hds : ds with
              | nil => rw [hds] at z; cases z
              | cons c r => rw [hds] at hm; exact hm
            · rw [List.mem_singleton.mp z]
              exact ⟨ns, n, rfl, hlen⟩
          · rw [hf, if_pos (by rfl)] at g6'
            exact g6'
        cases hds : ds with
        | nil =>
          rw [hds] at fE
          refine if0 (et_and (b := false) (et_of (ev_eq0L (neg := true) (er_of_l (fE x5 rfl)))) fun h => by cases h) (fun hb => by cases hb) fun _ H6 x6 => fin x6 ?_ fun H' h => h
          rw [hds]
          rfl
        | cons c r =>
          obtain ⟨l, hl⟩ : ∃ l, ds.getLast? = some l := ⟨_, by rw [hds]; exact List.getLast?_eq_some_getLast (List.cons_ne_nil _ _)⟩
          obtain ⟨ms, m, el, hm⟩ := g5 l (List.mem_of_getLast? hl)
          obtain ⟨cs, cn, ec, hc⟩ := g5 c (by rw [hds]; exact List.mem_cons_self ..)
          have hhead : lenD (fstD (ds.headD .none)) = cs.length := by
            rw [hds]
            show lenD (fstD c) = _
            rw [ec]
            show (cs.map PyData.int).length = _
            rw [List.length_map]
          rw [hhead] at hm
          have hfit : fits rowAdj ds (.tuple [.tuple (ns.map .int), .int n]) = (decide (ns.length = cs.length) && HT.lexLt ms ns) := by
            unfold fits
            rw [hl, el]
            show (decide ((ns.map PyData.int).length = (ms.map PyData.int).length) && HT.lexLt (keyOf (.tuple [.tuple (ms.map .int), .int m])) (keyOf (.tuple [.tuple (ns.map .int), .int n]))) = _
            rw [keyOf_row, keyOf_row, List.length_map, List.length_map, hm]
          have h0 : ds[0]? = some (.tuple [.tuple (cs.map .int), .int cn]) := by rw [hds, ← ec]; rfl
          have hpos : 0 < ds.length := by rw [hds]; simp
          rw [el] at hl
          refine if0 (et_and (et_of (ev_eq0L (neg := true) (er_of_l (fE x5 rfl)))) fun _ => et_or (et_of (ev_neI (ev_len (es_of_t (ev_at (j := 0) (ev_var rfl r45) rfl))) (ev_len (es_of_t (ev_at (j := 0) (ev_ixL (i := 0) (j := 0) (es_of_l (fE x5 rfl)) ev_int (ixN_nat (j := 0) hpos) h0) rfl))))) fun _ => et_of (ev_leT (ev_at (j := 0) (ev_var rfl r45) rfl) (ev_at (j := 0) (ev_lastL (fE x5 rfl) hl) rfl))) (fun hb2 H6 x6 => ?_) fun hb2 H6 x6 => ?_
          · have e5 : decide ((((ns.map PyData.int).length : Nat) : Int) = (((cs.map PyData.int).length : Nat) : Int)) = decide (ns.length = cs.length) := by
              rw [List.length_map, List.length_map]
              exact decide_eq_decide.mpr Int.ofNat_inj
            have e6 : (if true = true then !decide (ds.length = 0) else decide (ds.length = 0)) = true := by
              rw [if_pos rfl, decide_eq_false (by omega)]
              rfl
            rw [e5, e6, Bool.true_and] at hb2
            have hff : fits rowAdj ds (.tuple [.tuple (ns.map .int), .int n]) = false := by
              rw [hfit]
              cases h7 : decide (ns.length = cs.length) with
              | false => rfl
              | true =>
                rw [h7, Bool.not_true, Bool.false_or, Bool.not_eq_true'] at hb2
                rw [hb2]
                rfl
            rw [hff, Bool.and_false, if_neg Bool.false_ne_true] at g6'
            exact bad rfl (x35.trans x6) g6'.symm
          · have e5 : decide ((((ns.map PyData.int).length : Nat) : Int) = (((cs.map PyData.int).length : Nat) : Int)) = decide (ns.length = cs.length) := by
              rw [List.length_map, List.length_map]
              exact decide_eq_decide.mpr Int.ofNat_inj
            have e6 : (if true = true then !decide (ds.length = 0) else decide (ds.length = 0)) = true := by
              rw [if_pos rfl, decide_eq_false (by omega)]
              rfl
            rw [e5, e6, Bool.true_and, Bool.or_eq_false_iff, Bool.not_eq_false', Bool.not_eq_false'] at hb2
            exact fin x6 (by rw [hfit, hb2.1, hb2.2]; rfl) fun H' h => h
  · subst e1
    have e0 : 1 + (((ws.map fun l => PyData.str (S l)).length : Int) - 1).toNat = ws.length := by rw [hlw]; omega
    rw [e0, List.drop_length] at g6
    refine ret0 kk x3 (ev_tup (ea_cons (ev_tupOf (evp_var (p := VP.l W0 K ds) rfl ⟨pf, xs, rfl, g1, (fun z => z), g2⟩)) (ea_cons ev_non ea_nil)) (by simp)) ?_
    rw [← g6]
    rfl
end
end Fd
-- LR4
namespace Fd
open PySem PySem.Spec PyProof.Rows L2
/-- the first place that is wrong, or not there -/
def wrongGo (n : Nat) : Nat → List PyData → PyData
  | i, [] => if n > i then .int (i : Nat) else .none
  | i, d :: ds => if i = n ∨ isNone d = true then .int (i : Nat) else wrongGo n (i + 1) ds
def spWrong (K : PySem.W.Frag) : Sp := fun vs H Q _ => ∃ (b c : Addr) (ws : List (List Nat)) (xs : List V) (ds : List PyData), vs = [.ref b, .ref c] ∧ H b = some (.lst (wordsV ws)) ∧ H c = some (.lst xs) ∧ Rps K H ds xs ∧ ws.length ≤ 1000000 ∧ ds.length ≤ 1000000 ∧
  ∀ v H', Same H H' → Rp K H' (wrongGo ws.length 0 ds) v → Q v H'
section
variable {P : Program} {w : World} {K : PySem.W.Frag} {mg : Str → Option Value} {base : Heap}
theorem cd__law_tx_wrong (T : Tx K mg) : Cd P w K mg base CX0 1 "_law_tx_wrong" (spWrong K) := by
  refine cd_of (k := 1 - 1) T.d__law_tx_wrong sc__law_tx_wrong (fun _ _ _ _ _ _ us hl => match us, hl with | [_, _], _ => rfl) (fun vs H Q E h => by obtain ⟨_, _, _, _, _, e, _⟩ := h; rw [e]; rfl) ?_
  intro f cdv A outer s H vs Q E hr ⟨b, c, ws, xs, ds, e, hb, hc, hs, hz, hz2, kk⟩
  subst e
  refine ⟨_, (pss_cons (ps_for PassesOwn.never rfl (pi_range1 (by rfl) T.n_range (pa_cons (pe_callB (kLen K) (by rfl) T.n_len PySem.boot_len (pa_cons (pv 1) pa_nil)) pa_nil)) (pg_name (i := 2) sc__law_tx_wrong.nd rfl (Or.inl rfl))
      (pss_one (ps_if (PW.pt (pw_or (pt_cmpR op_eq (pv 2) (pe_callB (kLen K) (by rfl) T.n_len PySem.boot_len (pa_cons (pv 0) pa_nil)) (nomark _)) (pw_or1 (pt_cmpR op_isN (pe_ix (ixL K) (pv 1) (pv 2) (fun _ _ => rfl)) pe_non (nomark _)))))
        (pss_one (ps_ret (pv 2))) pss_nil)))
    (pss_one (ps_ret (pe_ifExp (pt_cmpR op_gt (pe_callB (kLen K) (by rfl) T.n_len PySem.boot_len (pa_cons (pv 0) pa_nil)) (pe_callB (kLen K) (by rfl) T.n_len PySem.boot_len (pa_cons (pv 1) pa_nil)) (nomark _)) (pe_callB (kLen K) (by rfl) T.n_len PySem.boot_len (pa_cons (pv 1) pa_nil)) pe_non)))), ?_⟩
  have bE : ∀ {H3} {o : Option V}, Wx W0 H H3 → EvS W0 K (tVar 0) [some (.ref b), some (.ref c), o] H3 (ws.map fun l => .str (S l)) := fun x => evp_var (p := VP.s W0 K _) rfl ⟨b, _, rfl, .inl ⟨SqL.of (x.2.2 _ _ hb fun z => z), fun z => z⟩, rps_words K _ ws⟩
  have cE : ∀ {H3} {o : Option V}, Wx W0 H H3 → EvS W0 K (tVar 1) [some (.ref b), some (.ref c), o] H3 ds := fun x => evp_var (p := VP.s W0 K _) rfl ⟨c, _, rfl, .inl ⟨SqL.of (x.2.2 _ _ hc fun z => z), fun z => z⟩, x.rps hs⟩
  refine st_forR (W := W0) (D := { nx := _, rt := _ }) (i := 2) trivial (ev_len (cE x0)) (by omega) (by omega) (fun i σ H3 => ∃ o, σ = [some (.ref b), some (.ref c), o] ∧ Wx W0 H H3 ∧ wrongGo ws.length i (ds.drop i) = wrongGo ws.length 0 ds) (fun H3 x3 => ⟨none, rfl, x3, rfl⟩) (fun i σ1 H3 hi ⟨o, e1, x3, g⟩ => ?_) fun σ1 H3 ⟨o, e1, x3, g⟩ => ?_
  · subst e1
    have hi' : i < ds.length := by omega
    have hd : ds[i]? = some ds[i] := List.getElem?_eq_getElem hi'
    rw [List.drop_eq_getElem_cons hi'] at g
    have g' : (if i = ws.length ∨ isNone ds[i] = true then PyData.int (i : Nat) else wrongGo ws.length (i + 1) (ds.drop (i + 1))) = wrongGo ws.length 0 ds := g
    have rI : ∀ {H}, Rp K H (.int (i : Nat)) (.int (i : Nat)) := rp_int.mpr rfl
    have e0 : decide ((i : Int) = (((ws.map fun l => PyData.str (S l)).length : Nat) : Int)) = decide (i = ws.length) := by
      rw [List.length_map]
      exact decide_eq_decide.mpr Int.ofNat_inj
    refine st_if (W := W0) trivial (et_or (et_of (ev_eqI (ev_var rfl rI) (ev_len (bE x3)))) fun _ => et_of (ev_isN (ev_ixL (j := i) (cE x3) (ev_var rfl rI) (ixN_nat hi') hd) ev_non)) (fun hb2 H4 x4 => ?_) fun hb2 H4 x4 => ⟨_, rfl, x3.trans x4, ?_⟩
    · refine ret0 kk (x3.trans x4) (ev_var rfl rI) ?_
      rw [e0, Bool.or_eq_true, decide_eq_true_eq] at hb2
      rw [← g', if_pos hb2]
    · rw [e0, Bool.or_eq_false_iff, decide_eq_false_iff_not] at hb2
      rw [if_neg (fun z => z.elim hb2.1 fun z => by rw [hb2.2] at z; cases z)] at g'
      exact g'
  · subst e1
    have hln : (((ds.length : Nat) : Int)).toNat = ds.length := by omega
    rw [hln, List.drop_length] at g
    have g' : (if ws.length > ds.length then PyData.int (ds.length : Nat) else .none) = wrongGo ws.length 0 ds := g
    refine ret0 kk x3 (ev_if (et_of (ev_opB0 (ev_len (bE x3)) (ev_len (cE x3)))) (fun _ => ev_len (cE x3)) fun _ => ev_non) ?_
    rw [← g', List.length_map]
    by_cases h : ws.length > ds.length
    · rw [if_pos h, if_pos (decide_eq_true (by omega))]
    · rw [if_neg h, if_neg (by rw [decide_eq_true_eq]; omega)]
end
end Fd
-- Lm
/-! A lambda as a thing that is handed over and called. -/
namespace Fd
open PySem PySem.Spec PyProof.Rows L2 LamX NdefX
/-- its words, the cells that it captured, its code object -/
structure LF where
  qual : Str
  params : Arguments
  body : Expr
  scope : Scope
  cl : List (Str × Addr)
  c : Addr
abbrev LF.obj (F : LF) (pm ctv : Value) : Obj := PySem.W.kla_obj "<lambda>" F.qual F.params F.body F.scope F.cl pm F.c ctv
/-- the same without its body -/
abbrev LF.nf (F : LF) : NF := ⟨"<lambda>", F.qual, F.params, [], F.scope, F.cl, F.c⟩
def LmO (f : Addr) (F : LF) : HO := .ext fun h => ∃ pm ctv : Value, h.get? f = some (F.obj pm ctv)
theorem lmO_at {P : Program} {w : World} {H : Hp} {h : Heap} {f : Addr} {F : LF} (hok : HOk P w H h) (e : H f = some (LmO f F)) : ∃ pm ctv : Value, h.get? f = some (F.obj pm ctv) := by
  obtain ⟨z, _, _⟩ := hok f _ e
  exact z
section
variable {X : Cx} {pins : List (Addr × Obj)} {σ : L2.St} {H : Hp} {s : Shared}
theorem inv_lam {F : LF} {t' : Nat} {pm ctv : Value} (I : Inv X pins σ H s) : Inv X pins σ (upd H s.heap.objs.size (LmO s.heap.objs.size F)) { s with heap := s.heap.push (F.obj pm ctv), toks := t' } := by
  refine I.laid (a := s.heap.objs.size) (fun b u e => Heap.get?_push_of_some _ e) (Nat.le_refl _) ?_
  have e : (s.heap.push (F.obj pm ctv)).get? s.heap.objs.size = some (F.obj pm ctv) := Heap.get?_push_size _ rfl
  exact ⟨⟨pm, ctv, e⟩, ⟨_, e⟩, fun h1 h2 ⟨p, t, z⟩ st => ⟨p, t, st _ z⟩⟩
/-- the lambda is made -/
theorem lam_make3 {T : List NTab} {nm : Nat → Nat → Str} {c P : Addr} {params : Arguments} {body : Expr} {scope : Scope} {pos : Pos} {E : Value → Shared → Prop} {Q : Value → Shared → Prop} (I : Inv X pins σ H s) (TB : TabB X.base X.mg c P) (hcode : X.env.code = .ref c)
    (hm : (P, nm) ∈ T) (hn : nm pos.line pos.col = X.env.qual ++ "<lambda>") (hu : ∀ p ∈ T, p.1 = P → p.2 = nm) (hT : TabsN T H) (hdef : defaultsOf params X.env = ([], [])) (hfree : ∀ y ∈ scope.names, y.2 = .free → ∃ c, X.env.cells.lookup y.1 = some c)
    (h : ∀ (f c' : Addr) (H1 : Hp) (s' : Shared), Inv X pins σ H1 s' → ExtN H H1 → (∀ b, H1 b = Option.none → H b = Option.none) → (∀ b o, H b = some o → b ≠ P → H1 b = some o) → TabsN T H1 → H f = none → H1 f = some (LmO f ⟨X.env.qual ++ "<lambda>", params, body, scope, cloFrom X.env.cells scope.names [], c'⟩) → H1 c' = some (CodeO c' (X.env.qual ++ "<lambda>")) → Q (.ref f) s') :
    wpAny (model X.prog X.w) X.A (eval (.Lambda params body scope pos) X.env) Q E s := by
  obtain ⟨ps, hP, ht, ha⟩ := (show TabN H P nm from hT _ hm)
  refine PySem.W.kla_eval hdef ?_
  have bP : s.heap.BuiltinsAt X.mg P := TB.bm.keeps I.bk
  have hP' : s.heap.get? P = some { cls := .none, data := .fields ps } := I.hok P _ hP
  cases hc : codeAmong pos ps.toList with
  | none =>
    refine PySem.W.kla_makeFunction (mg := X.mg) (c := c) (P := P) (ps := ps) (closure_ok hfree) I.ok.glob (I.mod.glob.keeps I.bk) hcode (TB.code.keeps I.bk) hP' ht hc TB.gP bP fun c' ctv h' tk hx hge hlt hrec htb => ?_
    obtain ⟨c2, oc, vs, t, e2, hoc, hd, hv⟩ := hrec
    cases e2
    have nC : H c' = none := I.hok.fresh hge
    have I1 := inv_table (t' := tk) (more := #[rawInt pos.line, rawInt pos.col, .ref c']) (h' := h') I hP (fun b o hb e => hx b o hb e) htb hge ⟨oc, vs, t, hoc, hd, hv⟩
    have hE : ExtN H (upd (upd H P (.tbl (ps ++ #[rawInt pos.line, rawInt pos.col, .ref c']))) c' (CodeO c' (X.env.qual ++ "<lambda>"))) := fun b o e n => by
      rw [upd_ne (ne_of_none e nC), upd_ne (fun z => n ps (Option.some.inj (e.symm.trans (by rw [z]; exact hP))))]
      exact e
    have eL : (ps ++ #[rawInt pos.line, rawInt pos.col, .ref c']).toList = ps.toList ++ [rawInt pos.line, rawInt pos.col, .ref c'] := by simp
    have T1 : TabsN T (upd (upd H P (.tbl (ps ++ #[rawInt pos.line, rawInt pos.col, .ref c']))) c' (CodeO c' (X.env.qual ++ "<lambda>"))) := fun p hp => by
      by_cases hb : p.1 = P
      · rw [hu p hp hb, hb]
        refine ⟨_, by rw [upd_ne (ne_of_none hP nC), upd_same], by rw [eL]; exact PySem.TriplesOk_snoc _ _ _ _ ht, fun p' cv hcv => ?_⟩
        rw [eL] at hcv
        rcases among_app2 _ ht hcv with z | ⟨z, z1, z2⟩
        · obtain ⟨c0, e1, e2⟩ := ha p' cv z
          exact ⟨c0, e1, hE _ _ e2 codeO_ne⟩
        · refine ⟨c', z, ?_⟩
          rw [← z1, ← z2, hn]
          exact upd_same
      · obtain ⟨ps', a1, a2, a3⟩ := hT p hp
        refine ⟨ps', by rw [upd_ne (ne_of_none a1 nC), upd_ne hb]; exact a1, a2, fun p' cv hcv => ?_⟩
        obtain ⟨c0, e1, e2⟩ := a3 p' cv hcv
        exact ⟨c0, e1, hE _ _ e2 codeO_ne⟩
    have nF := I1.hok.fresh (Nat.le_refl _)
    have I2 := inv_lam (F := ⟨X.env.qual ++ "<lambda>", params, body, scope, cloFrom X.env.cells scope.names [], c'⟩) (t' := tk) (pm := (X.mg "__name__").getD .none) (ctv := ctv) I1
    refine h h'.objs.size c' _ _ I2 (fun b o e n => ?_) (fun b e => upd_none (upd_none (upd_none e))) (fun b o e n => ?_) (T1.ext fun b o e => ?_) (I.hok.fresh (Nat.le_trans hge (Nat.le_of_lt hlt))) upd_same ?_
    · have e1 := hE b o e n
      exact (upd_ne (ne_of_none e1 nF)).trans e1
    · have e1 : upd (upd H P (.tbl (ps ++ #[rawInt pos.line, rawInt pos.col, .ref c']))) c' (CodeO c' (X.env.qual ++ "<lambda>")) b = some o := by
        rw [upd_ne (ne_of_none e nC), upd_ne n]
        exact e
      exact (upd_ne (ne_of_none e1 nF)).trans e1
    · exact (upd_ne (ne_of_none e nF)).trans e
    · exact (upd_ne (Nat.ne_of_lt hlt)).trans upd_same
  | some cv =>
    obtain ⟨c', e, hco⟩ := ha pos cv hc
    subst e
    rw [hn] at hco
    refine PySem.W.kla_makeFunctionHit (mg := X.mg) (c := c) (P := P) (ps := ps) (closure_ok hfree) I.ok.glob (I.mod.glob.keeps I.bk) hcode (TB.code.keeps I.bk) hP' ht hc bP fun ctv h' tk hx hsz => ?_
    have I1 : Inv X pins σ H { s with heap := h', toks := tk } := I.kept hx
    have nF : H h'.objs.size = none := I1.hok.fresh (Nat.le_refl _)
    have I2 := inv_lam (F := ⟨X.env.qual ++ "<lambda>", params, body, scope, cloFrom X.env.cells scope.names [], c'⟩) (t' := tk) (pm := (X.mg "__name__").getD .none) (ctv := ctv) I1
    refine h h'.objs.size c' _ _ I2 (fun b o e n => ?_) (fun b e => upd_none e) (fun b o e n => ?_) (hT.ext fun b o e => ?_) nF upd_same ?_
    · exact (upd_ne (ne_of_none e nF)).trans e
    · exact (upd_ne (ne_of_none e nF)).trans e
    · exact (upd_ne (ne_of_none e nF)).trans e
    · exact (upd_ne (ne_of_none hco nF)).trans hco
end
/-- lambda ..: .. -/
def tLm (T : List NTab) (P : Addr) (mk : Addr → LF) : TE := fun _ H Q => TabsN T H ∧ ∀ (f c' : Addr) (H1 : Hp), (∀ b, H1 b = Option.none → H b = Option.none) → (∀ b o, H b = some o → b ≠ P → H1 b = some o) → TabsN T H1 → H f = none → H1 f = some (LmO f (mk c')) → H1 c' = some (CodeO c' (mk c').qual) → Q (.ref f) H1
theorem pe_lm {X : Cx} {T : List NTab} {nm : Nat → Nat → Str} {c P : Addr} {params : Arguments} {body : Expr} {scope : Scope} {pos : Pos} (TB : TabB X.base X.mg c P) (hcode : X.env.code = .ref c) (hm : (P, nm) ∈ T) (hn : nm pos.line pos.col = X.env.qual ++ "<lambda>") (hu : ∀ p ∈ T, p.1 = P → p.2 = nm)
    (hfree : ∀ y ∈ scope.names, y.2 = .free → X.env.scope.names.lookup y.1 = some .cell ∨ X.env.scope.names.lookup y.1 = some .free) (hdef : defaultsOf params X.env = ([], []) := by rfl) :
    PE X (.Lambda params body scope pos) (tLm T P fun c' => ⟨X.env.qual ++ "<lambda>", params, body, scope, cloFrom X.env.cells scope.names [], c'⟩) := by
  refine ⟨fun pins s σ H Q I h => ?_⟩
  obtain ⟨hT, h⟩ := h
  have hfr : ∀ y ∈ scope.names, y.2 = .free → ∃ c, X.env.cells.lookup y.1 = some c := fun y hy e => (hfree y hy e).elim (fun z => I.ok.has _ (.inl z)) fun z => I.ok.has _ (.inr z)
  exact lam_make3 I TB hcode hm hn hu hT hdef hfr fun f c' H1 s' I1 _ nn ke T1 f0 f1 c1 => ⟨.ref f, H1, I1, rfl, h f c' H1 nn ke T1 f0 f1 c1⟩
/-- the promise of the lambda F at f -/
structure LOk (P : Program) (w : World) (K : PySem.W.Frag) (mg : Str → Option Value) (base : Heap) (CX : CXT) (k : Nat) (f : Addr) (F : LF) (ps fr : List Str) (sp : List (Option V) → Sp) : Prop where
  len : ∀ ws vs H Q E, sp ws vs H Q E → vs.length = ps.length
  run : ∀ (A : Around) (outer : List Env) (s : Shared) (H : Hp) (us : List Value) (vs : List V) (ws : List (Option V)) (Q : VK) (E : XK), Room k A → Env0 P w K mg base A outer s H → H f = some (LmO f F) → H F.c = some (CodeO F.c F.qual) →
    CellsAt F.cl fr ws s.heap H → Vals vs us → sp ws vs H Q E → codeAny (model P w) A (.call (.ref f) ⟨us, []⟩) (CR CX outer P w H s Q E) s
section
variable {CX : CXT} {P : Program} {w : World} {K : PySem.W.Frag} {mg : Str → Option Value} {base : Heap} {N ps fr : List Str} {F : LF} {f : Addr} {k j : Nat} {sp sp' : List (Option V) → Sp}
theorem LOk.mono (o : LOk P w K mg base CX j f F ps fr sp) (h : j ≤ k) : LOk P w K mg base CX k f F ps fr sp := ⟨o.len, fun A outer s H us vs ws Q E hr => o.run A outer s H us vs ws Q E (hr.mono h)⟩
/-- a lambda by its body -/
theorem lok_of (S : NScope N ps fr F.scope) (hb : ∀ (pm ctv : Value) (us : List Value), us.length = ps.length → bindArgs (PySem.W.kla_fn "<lambda>" F.qual F.params F.body F.scope F.cl pm (.ref F.c) ctv) ⟨us, []⟩ = pure (ps.zip us)) (len : ∀ ws vs H Q E, sp ws vs H Q E → vs.length = ps.length)
    (hbody : ∀ (A : Around) (outer : List Env) (s : Shared) (H : Hp) (vs : List V) (ws : List (Option V)) (Q : VK) (E : XK), Room k (A.deeper (envF F.nf f s.heap.objs.size)) → ws.length = fr.length → sp ws vs H Q E →
      ∃ t, PE (ncx CX P w K mg base N F.nf f A outer s H E) F.body t ∧ t (startF N vs ws) H Q) :
    LOk P w K mg base CX (k + 1) f F ps fr sp := by
  refine ⟨len, fun A outer s H us vs ws Q E hr e0 hf hc C r hsp => ?_⟩
  have hl := len _ _ _ _ _ hsp
  have lim : s.heap.NoLimit := e0.mod.nolimit.keeps fun b o e => (e0.bs b o e).1
  obtain ⟨pm, ctv, ho⟩ := lmO_at e0.hok hf
  refine PySem.W.kla_callFunE hr.depth ho rfl S.co S.gen rfl (codeO_at e0.hok hc) ?_
  rw [hb pm ctv us (by rw [← r.length]; exact hl)]
  refine wpAny_pure (wpAny_newFunctionEnv S.nocell (fun ⟨n, _⟩ hy => S.par n (List.of_mem_zip hy).1) (fun h₁ hns hsb => ⟨lim.fresh _ hsb, ?_⟩) S.kind)
  show codeAny _ _ (.expr F.body (envF F.nf f s.heap.objs.size)) _ _
  have kp : ∀ b o, s.heap.get? b = some o → h₁.get? b = some o := fun b o e => hsb.extBut b o (Nat.ne_of_lt (Heap.lt_size e)) (Heap.get?_push_of_some _ e)
  obtain ⟨t, ht, hq⟩ := hbody A outer s H vs ws Q E (hr.deeper _) C.len hsp
  have I : Inv (ncx CX P w K mg base N F.nf f A outer s H E) [] (startF N vs ws) H { s with heap := h₁, toks := s.toks + (ps.zip us).length } := inv_startN (F := F.nf) S hr.hd e0 hl r C hns kp
  refine PySem.W.kla_codeExpr (wpAny_mono (ht.run [] _ (startF N vs ws) H Q I hq) (fun v s' hs => ?_) fun e s' hs => hs)
  obtain ⟨v', H', J, rv, q⟩ := hs
  exact ⟨v', H', J.os, J.bare, J.base, J.hok, rv, q⟩
end
theorem lmAt_of {X : Cx} {pins : List (Addr × Obj)} {σ : L2.St} {H : Hp} {s : Shared} {f : Addr} {F : LF} (I : Inv X pins σ H s) (e : H f = some (LmO f F)) : PySem.W.FnAt f s.heap := by
  obtain ⟨pm, ctv, ho⟩ := lmO_at I.hok e
  exact ⟨_, _, _, _, ho⟩
/-- x(..), x a name that holds a lambda without captured names, which keeps its promise -/
def tCallLm (P : Program) (w : World) (K : PySem.W.Frag) (mg : Str → Option Value) (base : Heap) (k i : Nat) (t : TA) : TE := fun σ H Q => ∃ (f : Addr) (F : LF) (ps : List Str) (sp : Sp), σ[i]? = some (some (.ref f)) ∧ H f = some (LmO f F) ∧ F.cl = [] ∧ LOk P w K mg base CX0 k f F ps [] (fun _ => sp) ∧
  t σ H fun vs H1 => H1 f = some (LmO f F) ∧ H1 F.c = some (CodeO F.c F.qual) ∧ sp vs H1 Q E0
theorem pe_callLm {X : Cx} {i j k : Nat} {x : Str} {t : TA} {e : Expr} {es : List Expr} {p pos : Pos} (hr : Room j X.A) (hk : k ≤ j) (hN : X.N[i]? = some x) (hv : Vis X.env.scope x) (ha : PA X (e :: es) t)
    (hd : (x == ("__debug__" : Str)) = false := by decide) (hcd : (x == ("__classdict__" : Str)) = false := by decide)
    (he : starEach (e :: es) X.env = (false, eval e X.env) :: starEach es X.env := by rfl) (hpl : (backTo pos (starEach es X.env)).any (·.1) = false := by rfl) :
    PE X (.Call (.Name x p) (e :: es) [] pos) (tCallLm X.prog X.w X.K X.mg X.base k i t) := by
  refine ⟨fun pins s σ H Q I h => ?_⟩
  obtain ⟨f, F, ps, sp, hs, hf, hcl, Fn, ht⟩ := h
  refine wpAny_Call_Name_kw (thn ((pe_var (pos := p) hN hv hd hcd).run pins s σ H (fun v H1 => v = .ref f ∧ H1 = H) I ⟨.ref f, hs, rfl, rfl⟩) fun u s1 ⟨v, H1, I1, r1, q1⟩ => ?_)
  obtain ⟨ev, eH⟩ := q1
  subst ev
  rw [eH] at I1
  obtain rfl : u = Value.ref f := r1
  refine PySem.W.callWith_F (first := []) (lmAt_of I1 hf) (thn (ha.run pos pins s1 σ H _ I1 ht) fun us s2 ⟨vs, H2, I2, r, h1, h2, q⟩ => ⟨lmAt_of I2 h1, ?_⟩) he hpl
  show wpAny _ _ (call (.ref f) us) _ _ _
  have C : CellsAt F.cl [] [] s2.heap H2 := by
    rw [hcl]
    exact ⟨rfl, fun y c e => (by cases e), fun x y c e => (by cases e), fun i y e => (by cases e)⟩
  refine wpAny_call (codeAny_mono (Fn.run X.A X.stack s2 H2 us vs [] Q E0 (hr.mono hk) I2.env0 h1 h2 C r q) fun r s' hq => ?_)
  cases r with
  | error e => exact pass0 pins σ H2 s2 e s' I2 hq
  | ok fl =>
    cases fl with
    | ret u => exact I2.after hq
    | next => exact False.elim hq
    | brk => exact False.elim hq
    | cont => exact False.elim hq
end Fd
-- LR5
namespace Fd
open PySem PySem.Spec PyProof.Rows L2 LamX NdefX
def fAsk (g : List Nat → PyData) : List PyData → PyData → Prop := fun ds r => ∃ l : List Nat, ds = [.str (S l)] ∧ r = g l ∧ l.length ≤ 1000000
/-- at f stands a lambda that tells g of a word -/
def AsksAt (P : Program) (w : World) (K : PySem.W.Frag) (mg : Str → Option Value) (base : Heap) (H : Hp) (f : Addr) (g : List Nat → PyData) : Prop :=
  ∃ (F : LF) (ps : List Str), H f = some (LmO f F) ∧ H F.c = some (CodeO F.c F.qual) ∧ F.cl = [] ∧ LOk P w K mg base CX0 4 f F ps [] (fun _ => SpD K (fAsk g))
section
variable {P : Program} {w : World} {K : PySem.W.Frag} {mg : Str → Option Value} {base : Heap} {H H' : Hp} {f : Addr} {g : List Nat → PyData} {W : Wd} {σ : L2.St} {i : Nat} {te : TE} {l : List Nat}
theorem AsksAt.same (h : AsksAt P w K mg base H f g) (s : Same H H') : AsksAt P w K mg base H' f g := by
  obtain ⟨F, ps, h1, h2, h3, h4⟩ := h
  exact ⟨F, ps, s _ _ h1, s _ _ h2, h3, h4⟩
theorem ev_ask (e : σ[i]? = some (some (.ref f))) (ha : AsksAt P w K mg base H f g) (h : Ev W0 K te σ H (.str (S l))) (hl : l.length ≤ 1000000) : Ev W0 K (tCallLm P w K mg base 4 i (tCons te tNil)) σ H (g l) := fun H1 x Q k => by
  have s1 : Same H H1 := fun b o q => x.2.2 b o q fun z => z
  obtain ⟨F, ps, h1, h2, h3, h4⟩ := ha
  refine ⟨f, F, ps, _, e, s1 _ _ h1, h3, h4, h H1 x _ fun v H2 x2 r => ?_⟩
  have s2 : Same H1 H2 := fun b o q => x2.2.2 b o q fun z => z
  exact ⟨s2 _ _ (s1 _ _ h1), s2 _ _ (s1 _ _ h2), [.str (S l)], g l, Rps.one r, ⟨l, rfl, rfl, hl⟩, fun v' H3 s3 r3 => k v' H3 (x2.trans (Wx.same trivial s3)) r3⟩
end
def spTold (P : Program) (w : World) (K : PySem.W.Frag) (mg : Str → Option Value) (base : Heap) : Sp := fun vs H Q _ => ∃ (b f : Addr) (i : Nat) (ws : List (List Nat)) (g : List Nat → PyData), vs = [.ref b, .int (i : Nat), .ref f] ∧ H b = some (.lst (wordsV ws)) ∧ AsksAt P w K mg base H f g ∧ (∀ x ∈ ws, x.length ≤ 1000000) ∧
  ∀ v H', Same H H' → Rp K H' (match ws[i]? with | some x => g x | none => .none) v → Q v H'
section
variable {P : Program} {w : World} {K : PySem.W.Frag} {mg : Str → Option Value} {base : Heap}
theorem cd__law_tx_told (T : Tx K mg) : Cd P w K mg base CX0 5 "_law_tx_told" (spTold P w K mg base) := by
  refine cd_of (k := 5 - 1) T.d__law_tx_told sc__law_tx_told (fun _ _ _ _ _ _ us hl => match us, hl with | [_, _, _], _ => rfl) (fun vs H Q E h => by obtain ⟨_, _, _, _, _, e, _⟩ := h; rw [e]; rfl) ?_
  intro f0 cdv A outer s H vs Q E hr ⟨b, f, i, ws, g, e, hb, ha, hw, kk⟩
  subst e
  refine ⟨_, (pss_one (ps_ret (pe_ifExp (pt_cmpR op_lt (pv 1) (pe_callB (kLen K) (by rfl) T.n_len PySem.boot_len (pa_cons (pv 0) pa_nil)) (nomark _)) (pe_callLm (k := 4) (i := 2) hr (by decide) rfl (by first | exact Or.inl rfl | exact Or.inr (Or.inl rfl) | exact Or.inr (Or.inr rfl)) (pa_cons (pe_ix (ixL K) (pv 0) (pv 1) (fun _ _ => rfl)) pa_nil)) pe_non))), ?_⟩
  have bE : ∀ {H3}, Wx W0 H H3 → EvS W0 K (tVar 0) [some (.ref b), some (.int (i : Nat)), some (.ref f)] H3 (ws.map fun l => .str (S l)) := fun x => evp_var (p := VP.s W0 K _) rfl ⟨b, _, rfl, .inl ⟨SqL.of (x.2.2 _ _ hb fun z => z), fun z => z⟩, rps_words K _ ws⟩
  have rI : ∀ {H}, Rp K H (.int (i : Nat)) (.int (i : Nat)) := rp_int.mpr rfl
  have e0 : decide ((i : Int) < (((ws.map fun l => PyData.str (S l)).length : Nat) : Int)) = decide (i < ws.length) := by
    rw [List.length_map]
    exact decide_eq_decide.mpr Int.ofNat_lt
  by_cases hi : i < ws.length
  · have hg : ws[i]? = some ws[i] := List.getElem?_eq_getElem hi
    rw [hg] at kk
    refine ret0 kk x0 (ev_is (ev_if (d := g ws[i]) (e := .none) (et_is (et_of (ev_opB0 (ev_var rfl rI) (ev_len (bE x0)))) e0) (fun _ => ev_ask (P := P) (w := w) (mg := mg) (base := base) (i := 2) (l := ws[i]) rfl ha (ev_ixL (j := i) (bE x0) (ev_var (i := 1) rfl rI) (ixN_nat (by rw [List.length_map]; exact hi)) (by rw [List.getElem?_map, hg]; rfl)) (hw _ (List.getElem_mem hi))) fun h => absurd hi (of_decide_eq_false h)) (if_pos (decide_eq_true hi))) rfl
  · have hg : ws[i]? = none := List.getElem?_eq_none (by omega)
    rw [hg] at kk
    refine ret0 kk x0 (ev_is (ev_if (d := .none) (et_is (et_of (ev_opB0 (ev_var rfl rI) (ev_len (bE x0)))) e0) (fun h => absurd (of_decide_eq_true h) hi) fun _ => ev_non) (if_neg (fun z => hi (of_decide_eq_true z)))) rfl
end
end Fd
-- LR6
namespace Fd
open PySem PySem.Spec PyProof.Rows L2 LamX NdefX
def adjM (hd : List Nat) : PyData → PyData → Bool := if S hd = tMatch then tieAdj else noAdj
def isTieD (d : PyData) : Prop := ∃ a b : Int, d = .tuple [.int a, .int b]
def spTxParts (P : Program) (w : World) (K : PySem.W.Frag) (mg : Str → Option Value) (base : Heap) : Sp := fun vs H Q _ => ∃ (b f : Addr) (most : Nat) (hd : List Nat) (ws : List (List Nat)) (g : List Nat → PyData), vs = [.ref b, .int (most : Nat), .ref f] ∧ H b = some (.lst (wordsV (hd :: ws))) ∧ AsksAt P w K mg base H f g ∧
  (∀ x ∈ hd :: ws, x.length ≤ 1000000) ∧ ws.length ≤ 1000000 ∧ most ≤ 1000 ∧ (S hd = tMatch → ∀ x, isNone (g x) = true ∨ isTieD (g x)) ∧
  ∀ v H', Same H H' → Rp K H' (resD (partsGo g most (adjM hd) [] 1 ws)) v → Q v H'
section
variable {P : Program} {w : World} {K : PySem.W.Frag} {mg : Str → Option Value} {base : Heap}
theorem cd__law_tx_parts (T : Tx K mg) : Cd P w K mg base CX0 5 "_law_tx_parts" (spTxParts P w K mg base) := by
  refine cd_of (k := 5 - 1) T.d__law_tx_parts sc__law_tx_parts (fun _ _ _ _ _ _ us hl => match us, hl with | [_, _, _], _ => rfl) (fun vs H Q E h => by obtain ⟨_, _, _, _, _, _, e, _⟩ := h; rw [e]; rfl) ?_
  intro f0 cdv A outer s H vs Q E hr ⟨b, f, most, hd, ws0, g, e, hb, ha, hw, hz, hm, hsh, kk⟩
  subst e
  refine ⟨_, (pss_cons (ps_set (i := 3) sc__law_tx_parts.nd rfl (Or.inl rfl) (pe_lst pa_nil))
    (pss_cons (ps_for PassesOwn.never rfl (pi_range2 (by rfl) T.n_range (pa_cons pe_int (pa_cons (pe_callB (kLen K) (by rfl) T.n_len PySem.boot_len (pa_cons (pv 0) pa_nil)) pa_nil))) (pg_name (i := 4) sc__law_tx_parts.nd rfl (Or.inl rfl))
      (pss_cons (ps_set (i := 5) sc__law_tx_parts.nd rfl (Or.inl rfl) (pe_callLm (k := 4) (i := 2) hr (by decide) rfl (by first | exact Or.inl rfl | exact Or.inr (Or.inl rfl) | exact Or.inr (Or.inr rfl)) (pa_cons (pe_ix (ixL K) (pv 0) (pv 4) (fun _ _ => rfl)) pa_nil)))
      (pss_cons (ps_if (PW.pt (pw_or (pt_cmpR op_isN (pv 5) pe_non (nomark _)) (pw_or (pt_cmpR op_eq (pe_callB (kLen K) (by rfl) T.n_len PySem.boot_len (pa_cons (pv 3) pa_nil)) (pv 1) (nomark _)) (pw_or1 (PW.pt (pw_and (pt_cmpR op_eq (pe_ix (ixL K) (pv 0) pe_int (fun _ _ => rfl)) pe_str (nomark _)) (pw_and (pt_cmpR (op_ne0 hr.units0) (pv 3) (pe_lst pa_nil) (nomark _)) (pw_and1 (pt_cmpR op_le (pe_ix (ixT K) (pv 5) pe_int (fun _ _ => rfl)) (pe_ix (ixT K) (pe_ix (ixL K) (pv 3) (pe_un un_neg pe_int) (fun _ _ => rfl)) pe_int (fun _ _ => rfl)) (nomark _))))))))))
        (pss_one (ps_ret (pe_tup (pa_cons pe_non (pa_cons (pv 4) pa_nil))))) pss_nil)
      (pss_one (ps_expr (pe_bm PySem.F.plainAttrs_list PySem.F.slot_list_append PySem.F.type_list_append mt_append (pv 3) (pa_cons (pv 5) pa_nil)))))))
    (pss_one (ps_ret (pe_tup (pa_cons (pe_callTy (kTupOf K) (by rfl) T.n_tuple (by decide +kernel) (pa_cons (pv 3) pa_nil)) (pa_cons pe_non pa_nil))))))), ?_⟩
  generalize hws : hd :: ws0 = ws at hb hw
  have hd1 : ws0 = ws.drop 1 := by rw [← hws]; rfl
  have hl1 : ws.length = ws0.length + 1 := by rw [← hws]; rfl
  have hh : ws[0]? = some hd := by rw [← hws]; rfl
  rw [hd1] at kk
  generalize hR : partsGo g most (adjM hd) [] 1 (ws.drop 1) = R at kk
  refine ⟨(by decide), fun pf hn => ?_⟩
  have xb := Wx.new (W := W0) (o := .lst []) trivial hn
  have bE : ∀ {H3} {σ : L2.St}, Wx W0 H H3 → σ[0]? = some (some (.ref b)) → EvP (tVar 0) σ H3 (VP.s W0 K (ws.map fun l => .str (S l))) := fun x e => evp_var e ⟨b, _, rfl, .inl ⟨SqL.of (x.2.2 _ _ hb fun z => z), fun z => z⟩, rps_words K _ ws⟩
  have hlw : ((ws.map fun l => PyData.str (S l)).length : Int) = ws.length := by rw [List.length_map]
  refine st_forR2 (W := W0) (D := { nx := _, rt := _ }) (i := 4) trivial ev_int (ev_len (bE xb rfl)) (by rw [hlw]; omega) (fun i σ H3 => ∃ (ds : List PyData) (xs : List V) (o3 o4 : Option V), σ = [some (.ref b), some (.int (most : Nat)), some (.ref f), some (.ref pf), o3, o4] ∧ Wx W0 H H3 ∧ H3 pf = some (.lst xs) ∧ Rps K H3 ds xs ∧ ds.length ≤ i ∧ ds.length ≤ most ∧
      (S hd = tMatch → ∀ d ∈ ds, isTieD d) ∧ partsGo g most (adjM hd) ds (1 + i) (ws.drop (1 + i)) = R)
    (fun H3 x3 => ⟨[], [], none, none, rfl, xb.trans x3, x3.2.2 _ _ upd_same (fun z => z), rps_nil.mpr rfl, Nat.zero_le _, Nat.zero_le _, (fun _ d hd => by cases hd), hR⟩) (fun i σ1 H3 hi hI => ?_) fun σ1 H3 ⟨ds, xs, o3, o4, e1, x3, g1, g2, g3, g4, g5, g6⟩ => ?_
  · obtain ⟨ds, xs, o3, o4, e1, x3, g1, g2, g3, g4, g5, g6⟩ := hI
    subst e1
    have hi' : 1 + i < ws.length := by
      rw [hlw] at hi
      omega
    have hwl := hw _ (List.getElem_mem hi')
    rw [drop_at hi'] at g6
    have s3 : Same H H3 := fun b o q => x3.2.2 b o q fun z => z
    refine set0 K (ev_ask (P := P) (w := w) (mg := mg) (base := base) (i := 2) (l := ws[1 + i]) rfl (ha.same s3) (ev_ixL (j := 1 + i) (bE x3 rfl) (ev_var (i := 4) rfl (rp_int.mpr rfl)) (by have := ixN_nat (n := (ws.map fun l => PyData.str (S l)).length) (j := 1 + i) (by rw [List.length_map]; exact hi'); rw [show (((1 + i : Nat)) : Int) = 1 + (i : Nat) by omega] at this; exact this) (by rw [List.getElem?_map, List.getElem?_eq_getElem hi']; rfl)) hwl) fun v5 H4 x4 r5 => ?_
    have x34 := x3.trans x4
    have f1 : H4 pf = some (.lst xs) := x4.2.2 _ _ g1 fun z => z
    have f2 := x4.rps g2
    have fE : ∀ {H5} {σ : L2.St}, Wx W0 H4 H5 → σ[3]? = some (some (.ref pf)) → EvL W0 K (tVar 3) σ H5 ds := fun x e => evp_var e ⟨pf, xs, rfl, x.2.2 _ _ f1 (fun z => z), (fun z => z), x.rps f2⟩
    generalize hdd : g ws[1 + i] = d at r5
    have g6' : (if (!isNone d && decide (ds.length < most) && fits (adjM hd) ds d) = true then partsGo g most (adjM hd) (ds ++ [d]) (1 + i + 1) (ws.drop (1 + i + 1)) else .inr (1 + i)) = R := by
      rw [← hdd]
      exact g6
    have e3 : decide ((ds.length : Int) = ((most : Nat) : Int)) = !decide (ds.length < most) := by
      by_cases h : ds.length < most
      · rw [decide_eq_true h, decide_eq_false (by omega)]
        rfl
      · rw [decide_eq_false h, decide_eq_true (by omega)]
        rfl
    refine if0 (b := !(!isNone d && decide (ds.length < most) && fits (adjM hd) ds d)) ?_ (fun hb2 H5 x5 => ?_) fun hb2 H5 x5 => ?_
    · cases hdn : isNone d with
      | true => exact et_is (et_or (b := false) (et_of (ev_isN (ev_var rfl r5) ev_non)) fun h => by rw [hdn] at h; cases h) (by rw [hdn]; rfl)
      | false =>
        have e4 : decide (S hd = Str.ofString "match") = decide (S hd = tMatch) := rfl
        refine et_is (et_or (et_of (ev_isN (ev_var rfl r5) ev_non)) fun _ => et_or (et_is (et_of (ev_eqI (ev_len (es_of_l (fE x0 rfl))) (ev_var (i := 1) rfl (rp_int.mpr rfl)))) e3) fun _ => et_is (b := !fits (adjM hd) ds d) (et_and (b := !fits tieAdj ds d) (et_is (et_of (ev_eqS (ev_ixL (i := 0) (j := 0) (bE x34 rfl) ev_int (ixN_nat (j := 0) (by rw [List.length_map]; omega)) (by rw [List.getElem?_map, hh]; rfl)) ev_str)) e4) fun hmt => ?_) ?_) ?_
        · have hmt' : S hd = tMatch := of_decide_eq_true hmt
          have hdt : isTieD d := by
            rcases hsh hmt' ws[1 + i] with z | z
            · rw [hdd, hdn] at z; cases z
            · rw [← hdd]; exact z
          obtain ⟨x, y, ed⟩ := hdt
          cases hds : ds with
          | nil =>
            rw [hds] at fE
            exact et_is (et_and (b := false) (et_of (ev_eq0L (neg := true) (er_of_l (fE x0 rfl)))) fun h => by cases h) rfl
          | cons c r =>
            obtain ⟨l, hl⟩ : ∃ l, ds.getLast? = some l := ⟨_, by rw [hds]; exact List.getLast?_eq_some_getLast (List.cons_ne_nil _ _)⟩
            obtain ⟨x', y', el⟩ := g5 hmt' l (List.mem_of_getLast? hl)
            rw [← hds]
            have hfit : fits tieAdj ds d = decide (x' < x) := by
              unfold fits
              rw [hl, ed, el]
              rfl
            subst ed
            rw [el] at hl
            refine et_is (et_and (et_is (b := true) (et_of (ev_eq0L (neg := true) (er_of_l (fE x0 rfl)))) (by rw [if_pos rfl, hds]; rfl)) fun _ => et_of (ev_opB0 (ev_at (j := 0) (ev_var rfl r5) rfl) (ev_at (j := 0) (ev_lastL (fE x0 rfl) hl) rfl))) ?_
            rw [hfit, Bool.true_and]
            by_cases h : x' < x
            · rw [decide_eq_true h]
              exact decide_eq_false (by omega)
            · rw [decide_eq_false h]
              exact decide_eq_true (by omega)
        · unfold adjM
          by_cases h : S hd = tMatch
          · rw [decide_eq_true h, if_pos h, Bool.true_and]
          · rw [decide_eq_false h, if_neg h, fits_no, Bool.false_and]
            rfl
        · rw [hdn]
          cases decide (ds.length < most) <;> cases fits (adjM hd) ds d <;> rfl
    · rw [Bool.not_eq_true'] at hb2
      rw [hb2, if_neg Bool.false_ne_true] at g6'
      refine ret0 kk (x34.trans x5) (ev_tup (ea_cons ev_non (ea_cons (ev_var (d := .int (1 + (i : Nat))) (i := 4) rfl (rp_int.mpr rfl)) ea_nil)) (by simp)) ?_
      rw [← g6']
      show _ = PyData.tuple [.none, .int ((1 + i : Nat) : Int)]
      rw [show ((1 + i : Nat) : Int) = 1 + (i : Nat) by omega]
    · rw [Bool.not_eq_false'] at hb2
      rw [hb2, if_pos rfl] at g6'
      have f16 : H5 pf = some (.lst xs) := x5.2.2 _ _ f1 fun z => z
      have f26 := x5.rps f2
      have r56 := x5.rp r5
      have hb3 := hb2
      rw [Bool.and_eq_true, Bool.and_eq_true, decide_eq_true_eq, Bool.not_eq_true'] at hb3
      refine ⟨_, rfl, .inl ⟨rfl, xs, SqL.of f16⟩, v5, rfl, pf, xs, v5, rfl, rfl, f16, ?_, ds ++ [d], xs ++ [v5], _, _, rfl, Wx.mut (x34.trans x5) hn f16 rfl, upd_same, ?_, ?_, ?_, fun hmt c hc => ?_, g6'⟩
      · have := f26.len
        exact sz_lt (by omega)
      · have kt : KeepT H5 (upd H5 pf (.lst (xs ++ [v5]))) := KeepT.mut f16 rfl
        exact (Rps.mono kt _ _ f26).app (Rps.one (Rp.mono kt _ _ r56))
      · rw [List.length_append]
        exact Nat.succ_le_succ g3
      · rw [List.length_append]
        exact hb3.1.2
      · rcases List.mem_append.mp hc with z | z
        · exact g5 hmt c z
        · rw [List.mem_singleton.mp z]
          rcases hsh hmt ws[1 + i] with z | z
          · rw [hdd, hb3.1.1] at z; cases z
          · rw [← hdd]; exact z
  · subst e1
    have e0 : 1 + (((ws.map fun l => PyData.str (S l)).length : Int) - 1).toNat = ws.length := by rw [hlw]; omega
    rw [e0, List.drop_length] at g6
    refine ret0 kk x3 (ev_tup (ea_cons (ev_tupOf (evp_var (p := VP.l W0 K ds) (i := 3) rfl ⟨pf, xs, rfl, g1, (fun z => z), g2⟩)) (ea_cons ev_non ea_nil)) (by simp)) ?_
    rw [← g6]
    rfl
end
end Fd
-- LR7
namespace Fd
open PySem PySem.Spec PyProof.Rows L2 LamX NdefX
def freeB (sc scope : Scope) : Bool := scope.names.all fun y => !decide (y.2 = .free) || decide (sc.names.lookup y.1 = some .cell) || decide (sc.names.lookup y.1 = some .free)
theorem free_by {X : Cx} {sc scope : Scope} (h : freeB sc scope = true) (e : X.env.scope = sc := by rfl) : ∀ y ∈ scope.names, y.2 = .free → X.env.scope.names.lookup y.1 = some .cell ∨ X.env.scope.names.lookup y.1 = some .free := fun y hy hf => by
  have := List.all_eq_true.mp h y hy
  rw [hf] at this
  simp only [Bool.or_eq_true, Bool.not_eq_true', decide_eq_true_eq, decide_eq_false_iff_not] at this
  rw [e]
  rcases this with (z | z) | z
  · exact (z trivial).elim
  · exact .inl z
  · exact .inr z
/-- a def that makes lambdas: its code object at c has its table at Pt -/
def AtC (K : PySem.W.Frag) (mg : Str → Option Value) (base : Heap) (x : Str) (st : Stmt) (Pt : Addr) : Prop :=
  ∃ (f c : Addr) (oc : Value) (od : Option Addr) (kV doc pm : Value) (an : Option Addr) (ct : Value) (osl : Array (Option Value)), mg x = some (.ref f) ∧
    K.lookup f = some ⟨oc, od, .func (PySem.W.fnOf x x (defArgs st) (defBody st) (defScope st) .none kV doc pm an (.ref c) ct), osl⟩ ∧ PySem.W.codeIn K (.ref c) x = true ∧ PySem.W.keepIn K (.ref f) = true ∧ TabB base mg c Pt
theorem cdc_of {P : Program} {w : World} {K : PySem.W.Frag} {mg : Str → Option Value} {base : Heap} {x : Str} {st : Stmt} {N ps : List Str} {k : Nat} {sp : Sp} {Pt : Addr} (T : AtC K mg base x st Pt) (S : FnScope N ps (defScope st)) (hb : BindsOf x st ps) (len : ∀ vs H Q E, sp vs H Q E → vs.length = ps.length)
    (hbody : ∀ (f c : Addr) (A : Around) (outer : List Env) (s : Shared) (H : Hp) (vs : List V) (Q : VK) (E : XK), TabB base mg c Pt → Room k (A.deeper (envOfC x (defScope st) s.heap.objs.size f (.ref c))) → sp vs H Q E →
      ∃ t, PSs (cxOf CX0 P w K mg base N x (defScope st) f (.ref c) A outer s H E).nox (defBody st) t ∧ t { nx := fun _ H' => Q .non H', rt := Q } (start N vs) H) : Cd P w K mg base CX0 (k + 1) x sp := by
  obtain ⟨f, c, oc, od, kV, doc, pm, an, ct, osl, hm, lk, hcd, kp, TB⟩ := T
  refine ⟨f, _, ps, fn_of lk hcd S len fun A outer s H vs Q E hr hsp => ?_, hm, kp, .all (hb kV doc pm an (.ref c) ct)⟩
  obtain ⟨t, h, q⟩ := hbody f c A outer s H vs Q E TB hr hsp
  exact ⟨t, h.nox, q⟩
end Fd
-- LR9
namespace Fd
open PySem PySem.Spec PyProof.Rows L2 LamX NdefX
/-- the world of tables alone -/
def TW (TT : List NTab) : Wd := ⟨fun b => ∃ p ∈ TT, p.1 = b, fun H => TabsN TT H, fun H H' t h => fun p hp => by
    obtain ⟨ps, h1, h2, h3⟩ := t p hp
    refine ⟨ps, h _ _ h1 (fun z => by cases z), h2, fun pos cv hc => ?_⟩
    obtain ⟨c, e1, e2⟩ := h3 pos cv hc
    exact ⟨c, e1, h _ _ e2 (fun z => by unfold CodeO at z; cases z)⟩, fun H b t ⟨p, hp, m⟩ => by
    obtain ⟨ps, h1, _⟩ := t p hp
    rw [m] at h1
    exact ⟨_, h1, fun xs z => (by cases z), fun ob u z => (by cases z)⟩⟩
section
variable {P : Program} {w : World} {K : PySem.W.Frag} {mg : Str → Option Value} {base : Heap}
/-- a lambda of one word that calls a def of the text -/
theorem asks_of {F : LF} {f : Addr} {g : List Nat → PyData} {H : Hp} (h1 : H f = some (LmO f F)) (h2 : H F.c = some (CodeO F.c F.qual)) (h3 : F.cl = []) (NS : NScope (["word"] : List Str) (["word"] : List Str) [] F.scope)
    (hb : ∀ (pm ctv : Value) (us : List Value), us.length = (["word"] : List Str).length → bindArgs (PySem.W.kla_fn "<lambda>" F.qual F.params F.body F.scope F.cl pm (.ref F.c) ctv) ⟨us, []⟩ = pure ((["word"] : List Str).zip us))
    (hbody : ∀ (A : Around) (outer : List Env) (s : Shared) (H : Hp) (E : XK), Room 3 (A.deeper (envF F.nf f s.heap.objs.size)) → ∃ t, PE (ncx CX0 P w K mg base (["word"] : List Str) F.nf f A outer s H E) F.body t ∧ ∀ (l : List Nat) (H0 : Hp) (v : V), Rp K H0 (.str (S l)) v → l.length ≤ 1000000 → Ev W0 K t [some v] H0 (g l)) : AsksAt P w K mg base H f g := by
  refine ⟨F, ["word"], h1, h2, h3, lok_of (k := 3) NS hb (fun ws vs H Q E h => SpD.len (n := 1) (fun ds r h => by obtain ⟨_, e, _⟩ := h; rw [e]; rfl) vs H Q E h) fun A outer s H vs ws Q E hr hlen ⟨ds, r, hds, ⟨l, e1, e2, hl⟩, kk⟩ => ?_⟩
  subst e1 e2
  obtain ⟨v0, e, r0⟩ := rps1 hds
  subst e
  obtain ⟨t, ht, hev⟩ := hbody A outer s H E hr
  refine ⟨t, ht, ?_⟩
  have hws : ws = [] := List.eq_nil_of_length_eq_zero hlen
  subst hws
  exact (hev l H v0 r0 hl).run (W := W0) trivial fun v H' x rv => kk v H' (fun b o q => x.2.2 b o q fun z => z) rv
end
end Fd
-- LR10
namespace Fd
open PySem PySem.Spec PyProof.Rows L2 LamX NdefX
def encP : PyData ⊕ (Str × PyData) → PyData
  | .inl d => .tuple [.str "told", d]
  | .inr (x, w) => .tuple [.str x, w]
def lmName : Str := Str.ofString "_law_tx_read_paper.<locals>.<lambda>"
def nmRP : Nat → Nat → Str := fun _ _ => lmName
def spTxRead (K : PySem.W.Frag) (TT : List NTab) : Sp := fun vs H Q _ => ∃ l : List Nat, vs = [.str (S l)] ∧ l.length ≤ 400000 ∧ TabsN TT H ∧ ∀ v H', Wx (TW TT) H H' → Rp K H' (encP (readP l)) v → Q v H'
theorem lw_parts {l l0 : List Nat} {rest : List (List Nat)} (h : l.length ≤ 400000) (e : TL.spl [10] 0 [] l = l0 :: rest) : readP l = (match readLine (TL.spl [32] 0 [] l0) with
    | .bad j => .inr ("WrongLine", wl 0 j)
    | .ok r p => if p = (TL.spl [32] 0 [] l0).length then (if (1 : Int) < ((l0 :: rest).length : Nat) then .inr ("WrongLine", wl 1 0) else .inl r) else .inr ("WrongLine", wl 0 (p : Nat))) := by
  unfold readP
  rw [if_neg (by omega), e]
  all_goals rfl
abbrev rpEnd (K : PySem.W.Frag) : TS := tSeq (tIfS (tTest (tOp (fun x y H Q => y = V.non ∧ Q (V.bl !decide (x = V.non)) H) (tVar 4) (tC V.non))) (tRet (tTup (tCons (tC (.str (Str.ofString "WrongLine"))) (tCons (tTup (tCons (tC (.int 0)) (tCons (tVar 4) tNil))) tNil)))) tNext)
      (tSeq (tIfS (tTest (tOp (rI0 fun i j => .bl (decide (i > j))) (tCB (fun xs H Q => ∃ x n, xs = [x] ∧ LenV K x H n ∧ Q (.int n) H) (tCons (tVar 1) tNil)) (tC (.int 1)))) (tRet (tTup (tCons (tC (.str (Str.ofString "WrongLine"))) (tCons (tTup (tCons (tC (.int 1)) (tCons (tC (.int 0)) tNil))) tNil)))) tNext)
        (tRet (tTup (tCons (tC (.str (Str.ofString "told"))) (tCons (tOp (rCatA K) (tTup (tCons (tOp (rIx K) (tVar 2) (tC (.int 0))) tNil)) (tIf (tTest (tOp rEq (tOp (rIx K) (tVar 2) (tC (.int 0))) (tC (.str (Str.ofString "crowd"))))) (tVar 3) (tTup (tCons (tVar 3) tNil)))) tNil)))))
/-- what the law's own reading of a crowd answers -/
def d2Of (o : Option (List Nat)) : PyData := match o with
  | some x => (match listOf x with
    | some ns => if 80 < ns.length then .none else .tuple (ns.map .int)
    | none => .none)
  | none => .none
def d1Of (o : Option (List Nat)) : PyData := match o with
  | some x => withinOf 0 1 x
  | none => .none
def crowdEnd (w0 : List Nat) (k : Nat) (wd d1 d2 : PyData) : PyData := if isNone wd = true then (if (1 : Int) < (k : Nat) then .tuple [.str (Str.ofString "WrongLine"), .tuple [.int 1, .int 0]] else .tuple [.str (Str.ofString "told"), if S w0 = tCrowd then (match PyData.tuple [d1, d2] with | .tuple ds => .tuple (.str (S w0) :: ds) | _ => .none) else .tuple [.str (S w0), .tuple [d1, d2]]]) else .tuple [.str (Str.ofString "WrongLine"), .tuple [.int 0, wd]]
theorem wg_step {n i : Nat} {d : PyData} {ds : List PyData} (h : i ≠ n) (hd : isNone d = false) : wrongGo n i (d :: ds) = wrongGo n (i + 1) ds := by
  rw [wrongGo, if_neg (fun z => z.elim h fun z => by rw [hd] at z; cases z)]
theorem wg_stop {n i : Nat} {d : PyData} {ds : List PyData} (h : i = n ∨ isNone d = true) : wrongGo n i (d :: ds) = .int (i : Nat) := by
  rw [wrongGo, if_pos h]
theorem crowd_bad {w0 : List Nat} {k : Nat} {j : Int} {d1 d2 wd : PyData} (h : wd = .int j) : crowdEnd w0 k wd d1 d2 = encP (.inr ("WrongLine", wl 0 j)) := by
  rw [h]
  unfold crowdEnd
  rw [if_neg (fun z => by cases z)]
  rfl
theorem crowd_law {w0 l0 : List Nat} {ws rest : List (List Nat)} (hm : S w0 = tCrowd) : (encP (match crowdGo 1 (w0 :: ws) with
    | .bad j => .inr ("WrongLine", wl 0 j)
    | .ok r p => if p = (w0 :: ws).length then (if (1 : Int) < ((l0 :: rest).length : Nat) then .inr ("WrongLine", wl 1 0) else .inl r) else .inr ("WrongLine", wl 0 (p : Nat)))) =
    crowdEnd w0 (l0 :: rest).length (wrongGo (w0 :: ws).length 0 [.str (S w0), d1Of (w0 :: ws)[1]?, d2Of (w0 :: ws)[2]?]) (d1Of (w0 :: ws)[1]?) (d2Of (w0 :: ws)[2]?) := by
  have s0 : ∀ ds, wrongGo (w0 :: ws).length 0 (.str (S w0) :: ds) = wrongGo (w0 :: ws).length 1 ds := fun ds => wg_step (by simp) rfl
  rw [s0]
  cases ws with
  | nil =>
    rw [crowd_bad (wg_stop (i := 1) (n := [w0].length) (.inl rfl))]
    rfl
  | cons w1 r =>
    have e1 : (w0 :: w1 :: r)[1]? = some w1 := rfl
    have ed : d1Of (w0 :: w1 :: r)[1]? = withinOf 0 1 w1 := rfl
    rw [ed]
    unfold crowdGo
    rw [e1]
    dsimp only
    cases en : numOf w1 with
    | none =>
      have h1 : withinOf 0 1 w1 = .none := by
        unfold withinOf
        rw [en]
      rw [crowd_bad (wg_stop (.inr (by rw [h1]; rfl)))]
    | some n =>
      dsimp only
      by_cases e3 : (decide (0 ≤ n) && decide (n ≤ 1)) = true
      · have h1 : withinOf 0 1 w1 = .int n := by
          unfold withinOf
          rw [en]
          dsimp only
          rw [if_pos e3]
        rw [h1, if_pos e3]
        rw [wg_step (d := .int n) (by simp) rfl]
        cases r with
        | nil =>
          rw [crowd_bad (wg_stop (i := 1 + 1) (n := [w0, w1].length) (.inl rfl))]
          rfl
        | cons w2 r =>
          have e2' : (w0 :: w1 :: w2 :: r)[1 + 1]? = some w2 := rfl
          have ed2 : d2Of (w0 :: w1 :: w2 :: r)[2]? = d2Of (some w2) := rfl
          rw [ed2, e2']
          dsimp only
          cases el : listOf w2 with
          | none =>
            have h2 : d2Of (some w2) = .none := by
              unfold d2Of
              dsimp only
              rw [el]
            rw [crowd_bad (wg_stop (.inr (by rw [h2]; rfl)))]
          | some ns =>
            dsimp only
            by_cases e4 : 80 < ns.length
            · have h2 : d2Of (some w2) = .none := by
                unfold d2Of
                dsimp only
                rw [el]
                dsimp only
                rw [if_pos e4]
              rw [crowd_bad (wg_stop (.inr (by rw [h2]; rfl))), if_neg (by rw [decide_eq_true_eq]; omega)]
            · have h2 : d2Of (some w2) = .tuple (ns.map .int) := by
                unfold d2Of
                dsimp only
                rw [el]
                dsimp only
                rw [if_neg e4]
              rw [h2, if_pos (by rw [decide_eq_true_eq]; omega), wg_step (d := .tuple (ns.map .int)) (by simp) rfl]
              cases r with
              | nil =>
                have h3 : wrongGo [w0, w1, w2].length (1 + 1 + 1) [] = .none := rfl
                rw [h3]
                unfold crowdEnd
                rw [if_pos (show isNone .none = true from rfl), if_pos hm, hm]
                dsimp only
                rw [if_pos (show 1 + 2 = [w0, w1, w2].length from rfl)]
                by_cases h : (1 : Int) < ((l0 :: rest).length : Nat)
                · rw [if_pos h, if_pos h]
                  rfl
                · rw [if_neg h, if_neg h]
                  rfl
              | cons w3 r =>
                have h3 : wrongGo (w0 :: w1 :: w2 :: w3 :: r).length (1 + 1 + 1) [] = .int 3 := by
                  rw [wrongGo, if_pos (by simp)]
                  rfl
                rw [crowd_bad h3]
                dsimp only
                rw [if_neg (by simp)]
                rfl
      · have h1 : withinOf 0 1 w1 = .none := by
          unfold withinOf
          rw [en]
          dsimp only
          rw [if_neg e3]
        rw [if_neg e3, crowd_bad (wg_stop (.inr (by rw [h1]; rfl)))]
section
variable {K : PySem.W.Frag} {TT : List NTab}
/-- the end of the law's reading: what was found, or what is wrong -/
theorem rp_tail {D : Ends} {Q : VK} {H0 H : Hp} {l w0 : List Nat} {l0 : List Nat} {rest ws : List (List Nat)} {v1 v2 v3 v4 : V} {o5 : Option V} {fd wd : PyData} (hD : D.rt = Q) (x : Wx (TW TT) H0 H)
    (r1 : (VP.l (TW TT) K ((l0 :: rest).map fun w => .str (S w))).P H v1) (r2 : (VP.l (TW TT) K ((w0 :: ws).map fun w => .str (S w))).P H v2) (r3 : Rp K H fd v3) (r4 : Rp K H wd v4) (hf : isNone wd = true → S w0 = tCrowd → ∃ ds, fd = .tuple ds ∧ ds.length ≤ 1000) 
    (kk : ∀ v H', Wx (TW TT) H0 H' → Rp K H' (if isNone wd = true then (if (1 : Int) < ((l0 :: rest).length : Nat) then .tuple [.str (Str.ofString "WrongLine"), .tuple [.int 1, .int 0]] else .tuple [.str (Str.ofString "told"), if S w0 = tCrowd then (match fd with | .tuple ds => .tuple (.str (S w0) :: ds) | _ => .none) else .tuple [.str (S w0), fd]]) else .tuple [.str (Str.ofString "WrongLine"), .tuple [.int 0, wd]]) v → Q v H') :
    rpEnd K D [some (.str (S l)), some v1, some v2, some v3, some v4, o5] H := by
  have ret : ∀ {D : Ends} {H2 : Hp} {te : TE} {d : PyData} {σ : L2.St}, D.rt = Q → Wx (TW TT) H H2 → Ev (TW TT) K te σ H2 d → (∀ v H', Wx (TW TT) H0 H' → Rp K H' d v → Q v H') → tRet te D σ H2 := fun {D H2 te d σ} hD x2 h k => h.run (W := TW TT) x2.2.1 fun v H3 x3 r => by
    rw [hD]
    exact k v H3 (x.trans (x2.trans x3)) r
  refine if_then (W := TW TT) x.2.1 (et_of (ev_notN (ev_var rfl r4) ev_non)) (fun hb H2 x2 => ?_) fun hb H2 x2 => ?_
  · rw [Bool.not_eq_true'] at hb
    rw [if_neg (by rw [hb]; decide)] at kk
    exact ret hD x2 (ev_tup (ea_cons ev_str (ea_cons (ev_tup (ea_cons ev_int (ea_cons (ev_var rfl (x2.rp r4)) ea_nil)) (by simp)) ea_nil)) (by simp)) kk
  · rw [Bool.not_eq_false'] at hb
    rw [if_pos hb] at kk
    have r12 := (VP.l (TW TT) K _).st x2 r1
    refine if_then (W := TW TT) x2.2.1 (et_of (ev_opB0 (ev_len (es_of_l (evp_var rfl r12))) ev_int)) (fun hb2 H3 x3 => ?_) fun hb2 H3 x3 => ?_
    · rw [List.length_map, decide_eq_true_eq] at hb2
      rw [if_pos hb2] at kk
      exact ret hD (x2.trans x3) (ev_tup (ea_cons ev_str (ea_cons (ev_tup (ea_cons ev_int (ea_cons ev_int ea_nil)) (by simp)) ea_nil)) (by simp)) kk
    · rw [List.length_map, decide_eq_false_iff_not] at hb2
      rw [if_neg hb2] at kk
      have x23 := x2.trans x3
      have r23 := (VP.l (TW TT) K _).st x23 r2
      have r33 := x23.rp r3
      have ew : Ev (TW TT) K (tOp (rIx K) (tVar 2) (tC (.int 0))) [some (.str (S l)), some v1, some v2, some v3, some v4, o5] H3 (.str (S w0)) := ev_ixL (i := 0) (j := 0) (es_of_l (evp_var rfl r23)) ev_int (ixN_nat (j := 0) (by simp)) rfl
      by_cases hc : S w0 = tCrowd
      · rw [if_pos hc] at kk
        obtain ⟨ds, efd, hdl⟩ := hf hb hc
        subst efd
        exact ret hD x23 (ev_tup (ea_cons ev_str (ea_cons (ev_catT (ds := [.str (S w0)]) (es := ds) (ev_tup (ea_cons ew ea_nil) (by simp)) (ev_is (ev_if (e := .none) (et_of (ev_eqS ew ev_str)) (fun _ => ev_var rfl r33) fun h => absurd hc (of_decide_eq_false h)) (if_pos (decide_eq_true hc))) (by simp only [List.length_cons, List.length_nil]; omega)) ea_nil)) (by simp)) kk
      · rw [if_neg hc] at kk
        exact ret hD x23 (ev_tup (ea_cons ev_str (ea_cons (ev_catT (ds := [.str (S w0)]) (es := [fd]) (ev_tup (ea_cons ew ea_nil) (by simp)) (ev_is (ev_if (d := .none) (et_of (ev_eqS ew ev_str)) (fun h => absurd (of_decide_eq_true h) hc) fun _ => ev_tup (ea_cons (ev_var rfl r33) ea_nil) (by simp)) (if_neg (fun z => hc (of_decide_eq_true z)))) (by simp)) ea_nil)) (by simp)) kk
theorem rp_two {D : Ends} {Q : VK} {H0 H : Hp} {l w0 : List Nat} {l0 : List Nat} {rest ws : List (List Nat)} {v v1 v2 : V} {o3 o4 o5 : Option V} {R : List PyData ⊕ Nat} (hD : D.rt = Q) (x : Wx (TW TT) H0 H)
    (r1 : (VP.l (TW TT) K ((l0 :: rest).map fun w => .str (S w))).P H v1) (r2 : (VP.l (TW TT) K ((w0 :: ws).map fun w => .str (S w))).P H v2) (r4 : Rp K H (resD R) v) (hncr : ¬ S w0 = tCrowd) (hrl : readLine (w0 :: ws) = withW w0 (outP R (w0 :: ws).length))
    (kk : ∀ v H', Wx (TW TT) H0 H' → Rp K H' (encP (match readLine (w0 :: ws) with
    | .bad j => .inr ("WrongLine", wl 0 j)
    | .ok r p => if p = (w0 :: ws).length then (if (1 : Int) < ((l0 :: rest).length : Nat) then .inr ("WrongLine", wl 1 0) else .inl r) else .inr ("WrongLine", wl 0 (p : Nat)))) v → Q v H') :
    gTup K 2 (gCons (gName 3) (gCons (gName 4) gNil)) v [some (.str (S l)), some v1, some v2, o3, o4, o5] H (fun σ H => rpEnd K D σ H) := by
  rw [hrl] at kk
  cases R with
  | inl ds =>
    refine g_pair (i := 3) (j := 4) (d1 := .tuple ds) (d2 := .none) r4 fun a b ra rb => ?_
    exact rp_tail (fd := .tuple ds) (wd := .none) (Q := Q) hD x r1 r2 ra rb (fun _ z => (hncr z).elim) fun v H' x' r' => kk v H' x' (by
      rw [if_pos (show isNone .none = true from rfl), if_neg hncr] at r'
      show Rp K H' (encP (if (w0 :: ws).length = (w0 :: ws).length then _ else _)) v
      rw [if_pos rfl]
      by_cases h : (1 : Int) < ((l0 :: rest).length : Nat)
      · rw [if_pos h] at r' ⊢
        exact r'
      · rw [if_neg h] at r' ⊢
        exact r')
  | inr k =>
    refine g_pair (i := 3) (j := 4) (d1 := .none) (d2 := .int (k : Nat)) r4 fun a b ra rb => ?_
    exact rp_tail (fd := .none) (wd := .int (k : Nat)) (Q := Q) hD x r1 r2 ra rb (fun z => by cases z) fun v H' x' r' => kk v H' x' (by
      rw [if_neg (show ¬ isNone (.int (k : Nat)) = true from fun z => by cases z)] at r'
      exact r')
abbrev rTupOf' (K : PySem.W.Frag) : List V → Hp → VK → Prop := fun xs H Q => ∃ p ys, xs = [.ref p] ∧ ((SqL K H p ys ∧ ∀ l, H l = none → Q (.ref l) (upd H l (.tup ys))) ∨ (SqT K H p ys ∧ Q (.ref p) H))
/-- the last two statements of the law's reading of a crowd -/
theorem crowd_rest {D D2 : Ends} {Q : VK} {H0 H : Hp} {l w0 : List Nat} {l0 : List Nat} {rest ws : List (List Nat)} {v1 v3 v4 va vc : V} {p2 pf : Addr} {d1 d2 : PyData} {tq : V} (hD : D.rt = Q) (hD2 : D2.nx = fun σ H => rpEnd K D σ H) (x : Wx (TW TT) H0 H)
    (r1 : (VP.l (TW TT) K ((l0 :: rest).map fun w => .str (S w))).P H v1) (r2 : (VP.l (TW TT) K ((w0 :: ws).map fun w => .str (S w))).P H (.ref p2)) (hp2 : H p2 = some (.lst (wordsV (w0 :: ws)))) (np : ¬ (TW TT).M pf) (hpf : H pf = some (.lst [tq, va, vc]))
    (hq : Rp K H (.str (S w0)) tq) (ra : Rp K H d1 va) (rc : Rp K H d2 vc) (hz : (w0 :: ws).length ≤ 1000000)
    (kk : ∀ v H', Wx (TW TT) H0 H' → Rp K H' (crowdEnd w0 (l0 :: rest).length (wrongGo (w0 :: ws).length 0 [.str (S w0), d1, d2]) d1 d2) v → Q v H') :
    tSeq (tAsg (tCall (spWrong K) [] E0 (tCons (tVar 2) (tCons (tVar 5) tNil))) (gName 4)) (tAsg (tCB (rTupOf' K) (tCons (tSl (rSlL K) (tVar 5) (tPart (tC (.int 1))) tNoPart) tNil)) (gName 3)) D2 [some (.str (S l)), some v1, some (.ref p2), some v3, some v4, some (.ref pf)] H := by
  have g := x.2.1
  refine ⟨.ref p2, rfl, .ref pf, rfl, p2, pf, w0 :: ws, [tq, va, vc], [.str (S w0), d1, d2], rfl, hp2, hpf, rps_cons.mpr ⟨_, _, rfl, hq, rps_cons.mpr ⟨_, _, rfl, ra, Rps.one rc⟩⟩, hz, by simp, fun v H2 s2 r4 => ?_⟩
  have x2 := Wx.same (W := TW TT) g s2
  have hpf2 := s2 _ _ hpf
  have hl : EvP (W := TW TT) (tVar 5) [some (.str (S l)), some v1, some (.ref p2), some v3, some v, some (.ref pf)] H2 (VP.r (TW TT) K [.str (S w0), d1, d2]) := evp_var rfl ⟨pf, _, rfl, ⟨SqL.of hpf2, np⟩, x2.rps (rps_cons.mpr ⟨_, _, rfl, hq, rps_cons.mpr ⟨_, _, rfl, ra, Rps.one rc⟩⟩)⟩
  have hs := el_slL (K := K) hl (eo_some (K := K) (i := 1) ev_int) eo_none
  rw [show (some (1 : Int)) = some ((1 : Nat) : Int) from rfl, cutD_from] at hs
  show tAsg (tCB (rTupOf' K) (tCons (tSl (rSlL K) (tVar 5) (tPart (tC (.int 1))) tNoPart) tNil)) (gName 3) D2 [some (.str (S l)), some v1, some (.ref p2), some v3, some v, some (.ref pf)] H2
  refine (ev_tupOf hs).run (W := TW TT) x2.2.1 fun v3' H3 x3 r3 => ?_
  show D2.nx [some (.str (S l)), some v1, some (.ref p2), some v3', some v, some (.ref pf)] H3
  rw [hD2]
  have x23 := x2.trans x3
  refine rp_tail (fd := .tuple [d1, d2]) (Q := Q) hD (x.trans x23) ((VP.l (TW TT) K _).st x23 r1) ((VP.l (TW TT) K _).st x23 r2) r3 (x3.rp r4) (fun _ _ => ⟨_, rfl, by simp⟩) fun v' H' x' r' => kk v' H' x' ?_
  exact r'
end
/-- a lambda is made in the world of tables -/
theorem lm_then {TT : List NTab} {Pt : Addr} {nm : Nat → Nat → Str} {H : Hp} {σ : L2.St} {Q : VK} {mk : Addr → LF} (g : (TW TT).J H) (hm : (Pt, nm) ∈ TT) (k : ∀ (f c' : Addr) (H1 : Hp), Wx (TW TT) H H1 → H1 f = some (LmO f (mk c')) → H1 c' = some (CodeO c' (mk c').qual) → Q (.ref f) H1) : tLm TT Pt mk σ H Q :=
  ⟨g, fun f c' H1 _ ke T1 _ h1 h2 => k f c' H1 ⟨g, T1, fun b o e n => ke b o e fun z => n ⟨_, hm, z.symm⟩⟩ h1 h2⟩
theorem lm_asg {TT : List NTab} {Pt : Addr} {nm : Nat → Nat → Str} {H : Hp} {σ : L2.St} {x y : V} {i : Nat} {sp : Sp} {g : TG} {D : Ends} {mk : Addr → LF} (e : σ[i]? = some (some y)) (j : (TW TT).J H) (hm : (Pt, nm) ∈ TT) (k : ∀ (f c' : Addr) (H1 : Hp), Wx (TW TT) H H1 → H1 f = some (LmO f (mk c')) → H1 c' = some (CodeO c' (mk c').qual) → sp [y, x, .ref f] H1 (fun v H2 => g v σ H2 D.nx) E0) : tAsg (tCall sp [] E0 (tCons (tVar i) (tCons (tC x) (tCons (tLm TT Pt mk) tNil)))) g D σ H :=
  ⟨y, e, lm_then (σ := σ) (Q := fun v H1 => sp [y, x, v] H1 (fun v H2 => g v σ H2 D.nx) E0) j hm k⟩
section
variable {P : Program} {w : World} {K : PySem.W.Frag} {mg : Str → Option Value} {base : Heap} {TT : List NTab} {Pt : Addr}
/-- the word told of by a lambda that is made here -/
theorem ev_told {nm : Nat → Nat → Str} {H : Hp} {σ : L2.St} {k i : Nat} {p2 : Addr} {ws : List (List Nat)} {g : List Nat → PyData} {mk : Addr → LF} (e : σ[k]? = some (some (.ref p2))) (hm : (Pt, nm) ∈ TT) (hp : H p2 = some (.lst (wordsV ws))) (np : ¬ (TW TT).M p2) (hw : ∀ x ∈ ws, x.length ≤ 1000000)
    (ha : ∀ (H1 : Hp) (f c' : Addr), H1 f = some (LmO f (mk c')) → H1 c' = some (CodeO c' (mk c').qual) → AsksAt P w K mg base H1 f g) : Ev (TW TT) K (tCall (spTold P w K mg base) [] E0 (tCons (tVar k) (tCons (tC (.int (i : Nat))) (tCons (tLm TT Pt mk) tNil)))) σ H (match ws[i]? with | some x => g x | none => .none) := fun H1 x Q kq =>
  ⟨.ref p2, e, lm_then (σ := σ) (Q := fun v H2 => spTold P w K mg base [.ref p2, .int (i : Nat), v] H2 Q E0) x.2.1 hm fun f c' H2 x2 h1 h2 => ⟨p2, f, i, ws, g, rfl, (x.trans x2).2.2 _ _ hp np, ha _ _ _ h1 h2, hw, fun v H3 s3 r3 => kq v H3 (x2.trans (Wx.same x2.2.1 s3)) r3⟩⟩
theorem cd__law_tx_read_paper (T : Tx K mg) (TC : AtC K mg base "_law_tx_read_paper" s__law_tx_read_paper Pt) (hmT : (Pt, fun _ _ => Str.ofString "_law_tx_read_paper.<locals>.<lambda>") ∈ TT) (hu : ∀ p ∈ TT, p.1 = Pt → p.2 = fun _ _ => Str.ofString "_law_tx_read_paper.<locals>.<lambda>") : Cd P w K mg base CX0 6 "_law_tx_read_paper" (spTxRead K TT) := by
  refine cdc_of (k := 6 - 1) TC sc__law_tx_read_paper (fun _ _ _ _ _ _ us hl => match us, hl with | [_], _ => rfl) (fun vs H Q E h => by obtain ⟨_, e, _⟩ := h; rw [e]; rfl) ?_
  intro f c A outer s H vs Q E TB hr ⟨l, e, hl, g, kk⟩
  subst e
  refine ⟨_, (pss_cons (ps_set (i := 1) sc__law_tx_read_paper.nd rfl (Or.inl rfl) (pe_split (pv 0) pe_str))
    (pss_cons (ps_par3 (i := 2) (j := 3) (l := 4) rfl sc__law_tx_read_paper.nd rfl rfl rfl (by decide) (by decide) (by decide) rfl rfl rfl (pa_cons (pe_split (pe_ix (ixL K) (pv 1) pe_int (fun _ _ => rfl)) pe_str) (pa_cons pe_non (pa_cons pe_int pa_nil))) (by rfl))
    (pss_cons (ps_if (pt_cmpR (kIn K) (pe_ix (ixL K) (pv 2) pe_int (fun _ _ => rfl)) (pe_lst (pa_cons pe_str (pa_cons pe_str pa_nil))) (by first | exact nomark _ | rfl))
      (pss_one (ps_asg (pe_d (cd__law_tx_rows T) hr (by decide) (pa_cons (pv 2) (pa_cons pe_int pa_nil))) (pg_tup rfl (pgs_cons (pg_name (i := 3) sc__law_tx_read_paper.nd rfl (Or.inl rfl)) (pgs_cons (pg_name (i := 4) sc__law_tx_read_paper.nd rfl (Or.inl rfl)) pgs_nil))))) (pss_one (ps_if (pt_cmpR op_eq (pe_ix (ixL K) (pv 2) pe_int (fun _ _ => rfl)) pe_str (nomark _))
        (pss_one (ps_asg (pe_d (cd__law_tx_parts T) hr (by decide) (pa_cons (pv 2) (pa_cons pe_int (pa_cons (pe_lm (T := TT) (nm := fun _ _ => Str.ofString "_law_tx_read_paper.<locals>.<lambda>") TB rfl hmT rfl hu (free_by (sc := defScope s__law_tx_read_paper) (by decide +kernel))) pa_nil)))) (pg_tup rfl (pgs_cons (pg_name (i := 3) sc__law_tx_read_paper.nd rfl (Or.inl rfl)) (pgs_cons (pg_name (i := 4) sc__law_tx_read_paper.nd rfl (Or.inl rfl)) pgs_nil))))) (pss_one (ps_if (pt_cmpR op_eq (pe_ix (ixL K) (pv 2) pe_int (fun _ _ => rfl)) pe_str (nomark _))
          (pss_one (ps_asg (pe_d (cd__law_tx_parts T) hr (by decide) (pa_cons (pv 2) (pa_cons pe_int (pa_cons (pe_lm (T := TT) (nm := fun _ _ => Str.ofString "_law_tx_read_paper.<locals>.<lambda>") TB rfl hmT rfl hu (free_by (sc := defScope s__law_tx_read_paper) (by decide +kernel))) pa_nil)))) (pg_tup rfl (pgs_cons (pg_name (i := 3) sc__law_tx_read_paper.nd rfl (Or.inl rfl)) (pgs_cons (pg_name (i := 4) sc__law_tx_read_paper.nd rfl (Or.inl rfl)) pgs_nil))))) (pss_one (ps_if (pt_cmpR op_eq (pe_ix (ixL K) (pv 2) pe_int (fun _ _ => rfl)) pe_str (nomark _))
            (pss_one (ps_asg (pe_d (cd__law_tx_parts T) hr (by decide) (pa_cons (pv 2) (pa_cons pe_int (pa_cons (pe_lm (T := TT) (nm := fun _ _ => Str.ofString "_law_tx_read_paper.<locals>.<lambda>") TB rfl hmT rfl hu (free_by (sc := defScope s__law_tx_read_paper) (by decide +kernel))) pa_nil)))) (pg_tup rfl (pgs_cons (pg_name (i := 3) sc__law_tx_read_paper.nd rfl (Or.inl rfl)) (pgs_cons (pg_name (i := 4) sc__law_tx_read_paper.nd rfl (Or.inl rfl)) pgs_nil))))) (pss_one (ps_if (pt_cmpR op_eq (pe_ix (ixL K) (pv 2) pe_int (fun _ _ => rfl)) pe_str (nomark _))
              (pss_cons (ps_set (i := 5) sc__law_tx_read_paper.nd rfl (Or.inl rfl) (pe_lst (pa_cons pe_str (pa_cons (pe_d (cd__law_tx_told T) hr (by decide) (pa_cons (pv 2) (pa_cons pe_int (pa_cons (pe_lm (T := TT) (nm := fun _ _ => Str.ofString "_law_tx_read_paper.<locals>.<lambda>") TB rfl hmT rfl hu (free_by (sc := defScope s__law_tx_read_paper) (by decide +kernel))) pa_nil)))) pa_nil))))
              (pss_cons (ps_expr (pe_bm PySem.F.plainAttrs_list PySem.F.slot_list_append PySem.F.type_list_append mt_append (pv 5) (pa_cons (pe_d (cd__law_tx_told T) hr (by decide) (pa_cons (pv 2) (pa_cons pe_int (pa_cons (pe_lm (T := TT) (nm := fun _ _ => Str.ofString "_law_tx_read_paper.<locals>.<lambda>") TB rfl hmT rfl hu (free_by (sc := defScope s__law_tx_read_paper) (by decide +kernel))) pa_nil)))) pa_nil)))
              (pss_cons (ps_if (PW.pt (pw_and (pt_cmpR op_notN (pe_ix (ixL K) (pv 5) pe_int (fun _ _ => rfl)) pe_non (nomark _)) (pw_and1 (pt_cmpR op_gt (pe_callB (kLen K) (by rfl) T.n_len PySem.boot_len (pa_cons (pe_ix (ixL K) (pv 5) pe_int (fun _ _ => rfl)) pa_nil)) pe_int (nomark _)))))
                (pss_one (ps_asg pe_non (pg_sub (pv 5) pe_int set_list))) pss_nil)
              (pss_cons (ps_set (i := 4) sc__law_tx_read_paper.nd rfl (Or.inl rfl) (pe_d (cd__law_tx_wrong T) hr (by decide) (pa_cons (pv 2) (pa_cons (pv 5) pa_nil))))
              (pss_one (ps_set (i := 3) sc__law_tx_read_paper.nd rfl (Or.inl rfl) (pe_callTy (kTupOf K) (by rfl) T.n_tuple (by decide +kernel) (pa_cons (pe_slice sl_list (pv 5) (po_some pe_int) po_none) pa_nil)))))))) pss_nil)))))))))
    (pss_cons (ps_if (pt_cmpR op_notN (pv 4) pe_non (nomark _))
      (pss_one (ps_ret (pe_tup (pa_cons pe_str (pa_cons (pe_tup (pa_cons pe_int (pa_cons (pv 4) pa_nil))) pa_nil))))) pss_nil)
    (pss_cons (ps_if (pt_cmpR op_gt (pe_callB (kLen K) (by rfl) T.n_len PySem.boot_len (pa_cons (pv 1) pa_nil)) pe_int (nomark _))
      (pss_one (ps_ret (pe_tup (pa_cons pe_str (pa_cons (pe_tup (pa_cons pe_int (pa_cons pe_int pa_nil))) pa_nil))))) pss_nil)
    (pss_one (ps_ret (pe_tup (pa_cons pe_str (pa_cons (pe_op op_catA (pe_tup (pa_cons (pe_ix (ixL K) (pv 2) pe_int (fun _ _ => rfl)) pa_nil)) (pe_ifExp (pt_cmpR op_eq (pe_ix (ixL K) (pv 2) pe_int (fun _ _ => rfl)) pe_str (nomark _)) (pv 3) (pe_tup (pa_cons (pv 3) pa_nil)))) pa_nil)))))))))), ?_⟩
  have r0 : ∀ {H}, Rp K H (.str (S l)) (.str (S l)) := rp_str.mpr rfl
  refine set_then (W := TW TT) (p := VP.l (TW TT) K _) g (el_words 10 (by decide) l_line (ev_var rfl r0) ev_str (by omega)) fun v1 H1 x1 r1 => ?_
  cases hls : TL.spl [10] 0 [] l with
  | nil => exact (spl_ne 10 l [] hls).elim
  | cons l0 rest =>
    rw [lw_parts hl hls] at kk
    rw [hls] at r1
    have hsl := spl_len1 10 l []
    have hsm := spl_mem_len 10 l []
    rw [hls] at hsl hsm
    have hl0 : l0.length ≤ 1000000 := by
      have := hsm l0 (List.mem_cons_self ..)
      simp only [List.length_nil] at this
      omega
    have g1 : (TW TT).J H1 := x1.2.1
    refine (el_words (W := TW TT) 32 (by decide) l_space (ev_ixL (i := 0) (j := 0) (es_of_l (evp_var rfl r1)) ev_int (ixN_nat (j := 0) (by simp)) rfl) ev_str hl0).run (W := TW TT) g1 fun v2 H2 x2 r2 => ⟨v2, .non, .int 0, rfl, ?_⟩
    have hwl := spl_len1 32 l0 []
    have hwm := spl_mem_len 32 l0 []
    cases hws : TL.spl [32] 0 [] l0 with
    | nil => exact (spl_ne 32 l0 [] hws).elim
    | cons w0 ws =>
      rw [hws] at kk r2 hwl hwm
      have hw : ∀ x ∈ w0 :: ws, x.length ≤ 1000000 := fun x hx => by
        have := hwm x hx
        simp only [List.length_nil] at this
        omega
      have hz : (w0 :: ws).length ≤ 1000000 := by
        have := hsm l0 (List.mem_cons_self ..)
        simp only [List.length_nil] at this
        omega
      have x12 := x1.trans x2
      have r12 := (VP.l (TW TT) K _).st x2 r1
      have ew : ∀ {H3} {σ : L2.St}, Wx (TW TT) H2 H3 → σ[2]? = some (some v2) → Ev (TW TT) K (tOp (rIx K) (tVar 2) (tC (.int 0))) σ H3 (.str (S w0)) := fun x e => ev_ixL (i := 0) (j := 0) (es_of_l (evp_var e ((VP.l (TW TT) K _).st x r2))) ev_int (ixN_nat (j := 0) (by simp)) rfl
      refine ifelse_then (W := TW TT) x2.2.1 (et_of (ev_inStr [tFill, tSight] (ew (Wx.refl x2.2.1) rfl) (es_of_l (el_lst (ea_cons ev_str (ea_cons ev_str ea_nil)))))) (fun hb H3 x3 => ?_) fun hb H3 x3 => ?_
      · have hc : (decide (S w0 = tFill) || decide (S w0 = tSight)) = true := by
          rw [decide_eq_true_eq] at hb
          simpa using hb
        have hncr : ¬ S w0 = tCrowd := fun z => by
          rw [z] at hc
          exact absurd hc (by decide +kernel)
        have hrl : readLine (w0 :: ws) = withW w0 (outP (partsGo (rowOf 97) 3000 rowAdj [] 1 ws) (w0 :: ws).length) := by
          unfold readLine
          dsimp only
          rw [if_pos hc]
        obtain ⟨p2, xs2, ev2, hp2, np2, hr2⟩ := (VP.l (TW TT) K _).st x3 r2
        have exs : xs2 = wordsV (w0 :: ws) := by
          have e2 : (w0 :: ws).map (fun l => PyData.str (S l)) = ((w0 :: ws).map S).map .str := by rw [List.map_map]; rfl
          rw [e2] at hr2
          rw [hr2.of_strs, List.map_map]
          rfl
        subst ev2
        rw [exs] at hp2
        refine ⟨_, rfl, p2, 96, w0 :: ws, rfl, hp2, hw, hz, by simp, fun v H4 s4 r4 => ?_⟩
        have x4 := Wx.same (W := TW TT) x3.2.1 s4
        have hdr : (w0 :: ws).drop 1 = ws := rfl
        rw [hdr] at r4
        have e97 : (96 : Int) + 1 = 97 := rfl
        rw [e97] at r4
        exact rp_two (Q := Q) rfl (x12.trans (x3.trans x4)) ((VP.l (TW TT) K _).st (x3.trans x4) r12) ((VP.l (TW TT) K _).st (x3.trans x4) r2) r4 hncr hrl kk
      · have hc : (decide (S w0 = tFill) || decide (S w0 = tSight)) = false := by
          rw [decide_eq_false_iff_not] at hb
          rw [Bool.eq_false_iff]
          intro z
          exact hb (by simpa using z)
        have x13 := x12.trans x3
        have r13 := (VP.l (TW TT) K _).st x3 r12
        have r23 := (VP.l (TW TT) K _).st x3 r2
        have hwz : ws.length ≤ 1000000 := by
          simp only [List.length_cons] at hz
          omega
        have wl2 : ∀ {H4}, Wx (TW TT) H2 H4 → ∃ p2, v2 = .ref p2 ∧ H4 p2 = some (.lst (wordsV (w0 :: ws))) := fun x4 => by
          obtain ⟨p2, xs2, ev2, hp2, np2, hr2⟩ := (VP.l (TW TT) K _).st x4 r2
          have exs : xs2 = wordsV (w0 :: ws) := by
            have e2 : (w0 :: ws).map (fun l => PyData.str (S l)) = ((w0 :: ws).map S).map .str := by rw [List.map_map]; rfl
            rw [e2] at hr2
            rw [hr2.of_strs, List.map_map]
            rfl
          rw [exs] at hp2
          exact ⟨p2, ev2, hp2⟩
        refine ifelse_then (W := TW TT) x3.2.1 (et_of (ev_eqS (ew x3 rfl) ev_str)) (fun hb4 H4 x4 => ?_) fun hb4 H4 x4 => ?_
        · have hm : S w0 = tMatch := of_decide_eq_true hb4
          have x24 := x3.trans x4
          refine lm_asg (y := v2) rfl x4.2.1 hmT fun f1 c1 H5 x5 h1 h2 => ?_
          have x25 := x24.trans x5
          obtain ⟨p2, ev2, hp2⟩ := wl2 x25
          subst ev2
          refine ⟨p2, f1, 80, w0, ws, tieOf, rfl, hp2, asks_of h1 h2 rfl (nscope_by (by dsimp only; decide +kernel)) (fun _ _ us hl => match us, hl with | [_], _ => rfl) (fun A' outer' s' H' E' hr' => ⟨_, pe_d (cd__law_tx_tie T) hr' (by decide) (pa_cons (pv 0) pa_nil), fun l H0 v rv hl => ev_call (ea_cons (ev_var rfl rv) ea_nil) ⟨_, rfl, rfl, hl⟩⟩), hw, hwz, by omega, fun _ x => ?_, fun v H6 s6 r6 => ?_⟩
          · unfold tieOf
            cases TL.par [45] [] x with
            | none => exact .inl rfl
            | some ab =>
              obtain ⟨a, b⟩ := ab
              dsimp only
              cases numOf a with
              | none => exact .inl rfl
              | some n =>
                cases numOf b with
                | none => exact .inl rfl
                | some m => exact .inr ⟨n, m, rfl⟩
          · have x6 := Wx.same (W := TW TT) x5.2.1 s6
            have x46 := x4.trans (x5.trans x6)
            refine rp_two (Q := Q) rfl (x13.trans x46) ((VP.l (TW TT) K _).st x46 r13) ((VP.l (TW TT) K _).st x46 r23) r6 (fun z => by rw [hm] at z; exact absurd z (by decide +kernel)) ?_ kk
            unfold readLine adjM
            dsimp only
            rw [if_neg (by rw [hc]; decide), if_neg (by rw [hm]; decide +kernel), if_pos hm, if_pos hm]
        · have hnm : ¬ S w0 = tMatch := of_decide_eq_false hb4
          have x24 := x3.trans x4
          refine ifelse_then (W := TW TT) x4.2.1 (et_of (ev_eqS (ew x24 rfl) ev_str)) (fun hb5 H5 x5 => ?_) fun hb5 H5 x5 => ?_
          · have hm : S w0 = tPlan := of_decide_eq_true hb5
            have x25 := x24.trans x5
            refine lm_asg (y := v2) rfl x5.2.1 hmT fun f1 c1 H6 x6 h1 h2 => ?_
            have x26 := x25.trans x6
            obtain ⟨p2, ev2, hp2⟩ := wl2 x26
            subst ev2
            refine ⟨p2, f1, 159, w0, ws, setOf, rfl, hp2, asks_of h1 h2 rfl (nscope_by (by dsimp only; decide +kernel)) (fun _ _ us hl => match us, hl with | [_], _ => rfl) (fun A' outer' s' H' E' hr' => ⟨_, pe_d (cd__law_tx_lot T) hr' (by decide) (pa_cons (pv 0) pa_nil), fun l H0 v rv hl => ev_call (ea_cons (ev_var rfl rv) ea_nil) ⟨_, rfl, rfl, hl⟩⟩), hw, hwz, by omega, fun z x => (hnm z).elim, fun v H7 s7 r7 => ?_⟩
            have x7 := Wx.same (W := TW TT) x6.2.1 s7
            have x37 := (x4.trans x5).trans (x6.trans x7)
            refine rp_two (Q := Q) rfl (x13.trans x37) ((VP.l (TW TT) K _).st x37 r13) ((VP.l (TW TT) K _).st x37 r23) r7 (fun z => by rw [hm] at z; exact absurd z (by decide +kernel)) ?_ kk
            unfold readLine adjM
            dsimp only
            rw [if_neg (by rw [hc]; decide), if_neg (by rw [hm]; decide +kernel), if_neg hnm, if_pos hm, if_neg hnm]
          · have hnp : ¬ S w0 = tPlan := of_decide_eq_false hb5
            have x25 := x24.trans x5
            refine ifelse_then (W := TW TT) x5.2.1 (et_of (ev_eqS (ew x25 rfl) ev_str)) (fun hb6 H6 x6 => ?_) fun hb6 H6 x6 => ?_
            · have hm : S w0 = tVine := of_decide_eq_true hb6
              have x26 := x25.trans x6
              refine lm_asg (y := v2) rfl x6.2.1 hmT fun f1 c1 H7 x7 h1 h2 => ?_
              have x27 := x26.trans x7
              obtain ⟨p2, ev2, hp2⟩ := wl2 x27
              subst ev2
              refine ⟨p2, f1, 400, w0, ws, idxOf, rfl, hp2, asks_of h1 h2 rfl (nscope_by (by dsimp only; decide +kernel)) (fun _ _ us hl => match us, hl with | [_], _ => rfl) (fun A' outer' s' H' E' hr' => ⟨_, pe_d (cd__law_tx_number T) hr' (by decide) (pa_cons (pv 0) pa_nil), fun l H0 v rv hl => ev_call (ea_cons (ev_var rfl rv) ea_nil) ⟨_, rfl, rfl, hl⟩⟩), hw, hwz, by omega, fun z x => (hnm z).elim, fun v H8 s8 r8 => ?_⟩
              have x8 := Wx.same (W := TW TT) x7.2.1 s8
              have x38 := ((x4.trans x5).trans x6).trans (x7.trans x8)
              refine rp_two (Q := Q) rfl (x13.trans x38) ((VP.l (TW TT) K _).st x38 r13) ((VP.l (TW TT) K _).st x38 r23) r8 (fun z => by rw [hm] at z; exact absurd z (by decide +kernel)) ?_ kk
              unfold readLine adjM
              dsimp only
              rw [if_neg (by rw [hc]; decide), if_neg (by rw [hm]; decide +kernel), if_neg hnm, if_neg hnp, if_pos hm, if_neg hnm]
            · have hnv : ¬ S w0 = tVine := of_decide_eq_false hb6
              have x26 := x25.trans x6
              refine if_then (W := TW TT) x6.2.1 (et_of (ev_eqS (ew x26 rfl) ev_str)) (fun hb7 H7 x7 => ?_) fun hb7 H7 x7 => ?_
              · have hm : S w0 = tCrowd := of_decide_eq_true hb7
                have x27 := x26.trans x7
                have x37 := ((x4.trans x5).trans x6).trans x7
                obtain ⟨p2, xs2, ev2, hp2, np2, hr2⟩ := (VP.l (TW TT) K _).st x27 r2
                have exs : xs2 = wordsV (w0 :: ws) := by
                  have e2 : (w0 :: ws).map (fun l => PyData.str (S l)) = ((w0 :: ws).map S).map .str := by rw [List.map_map]; rfl
                  rw [e2] at hr2
                  rw [hr2.of_strs, List.map_map]
                  rfl
                subst ev2
                rw [exs] at hp2
                refine (ev_told (P := P) (w := w) (mg := mg) (base := base) (σ := [some (.str (S l)), some v1, some (.ref p2), some .non, some (.int 0), none]) (k := 2) (i := 1) (g := withinOf 0 1) rfl hmT hp2 np2 hw (fun H1 f1 c1 h1 h2 => asks_of h1 h2 rfl (nscope_by (by dsimp only; decide +kernel)) (fun _ _ us hl => match us, hl with | [_], _ => rfl) (fun A' outer' s' H' E' hr' => ⟨_, pe_d (cd__law_tx_within T) hr' (by decide) (pa_cons (pv 0) (pa_cons pe_int (pa_cons pe_int pa_nil))), fun l H0 v rv hl => ev_call (ea_cons (ev_var rfl rv) (ea_cons ev_int (ea_cons ev_int ea_nil))) ⟨_, _, _, rfl, rfl, hl⟩⟩))).run (W := TW TT) x7.2.1 fun va H8 x8 ra => ⟨(show 2 ≤ sizeLine by decide), fun pf hn => ?_⟩
                have hcr : Str.ofString "crowd" = S w0 := hm.symm
                have y8 := Wx.new (W := TW TT) (o := .lst [.str (Str.ofString "crowd"), va]) x8.2.1 hn
                have npf : ¬ (TW TT).M pf := Wx.nM x8.2.1 hn
                refine ⟨.ref pf, rfl, .inl ⟨rfl, _, SqL.of upd_same⟩, ?_⟩
                refine (ev_told (P := P) (w := w) (mg := mg) (base := base) (σ := [some (.str (S l)), some v1, some (.ref p2), some .non, some (.int 0), some (.ref pf)]) (k := 2) (i := 2) (g := fun x => optL (listOf x)) rfl hmT ((x8.trans y8).2.2 _ _ hp2 np2) np2 hw (fun H1 f1 c1 h1 h2 => asks_of h1 h2 rfl (nscope_by (by dsimp only; decide +kernel)) (fun _ _ us hl => match us, hl with | [_], _ => rfl) (fun A' outer' s' H' E' hr' => ⟨_, pe_d (cd__law_tx_list T) hr' (by decide) (pa_cons (pv 0) pa_nil), fun l H0 v rv hl => ev_call (ea_cons (ev_var rfl rv) ea_nil) ⟨_, rfl, rfl, hl⟩⟩))).run (W := TW TT) y8.2.1 fun vb H9 x9 rb => ?_
                have h9 := x9.2.2 _ _ upd_same npf
                refine ⟨pf, [.str (Str.ofString "crowd"), va], vb, rfl, rfl, h9, (show 2 < sizeLine by decide), ?_⟩
                have y10 := Wx.mut (y8.trans x9) (o' := .lst ([.str (Str.ofString "crowd"), va] ++ [vb])) hn h9 rfl
                have h10 : upd H9 pf (.lst ([.str (Str.ofString "crowd"), va] ++ [vb])) pf = some (.lst [.str (Str.ofString "crowd"), va, vb]) := upd_same
                have kt : KeepT H9 (upd H9 pf (.lst ([.str (Str.ofString "crowd"), va] ++ [vb]))) := KeepT.mut h9 rfl
                have ra10 : Rp K _ (d1Of (w0 :: ws)[1]?) va := y10.rp (by exact ra)
                have rb10 : Rp K _ (match (w0 :: ws)[2]? with | some x => optL (listOf x) | none => .none) vb := Rp.mono kt _ _ rb
                generalize hH : upd H9 pf (.lst ([.str (Str.ofString "crowd"), va] ++ [vb])) = H10 at y10 h10 ra10 rb10
                have x810 := x8.trans y10
                have hrl : readLine (w0 :: ws) = crowdGo 1 (w0 :: ws) := by
                  unfold readLine
                  dsimp only
                  rw [if_neg (by rw [hc]; decide), if_pos hm]
                rw [hrl, crowd_law hm] at kk
                have fin : ∀ {H11 : Hp} {vc : V} {D2 : Ends}, D2.nx = (fun σ H => rpEnd K { nx := fun _ H' => Q .non H', rt := Q } σ H) → Wx (TW TT) H7 H11 → H11 pf = some (.lst [.str (Str.ofString "crowd"), va, vc]) → Rp K H11 (d1Of (w0 :: ws)[1]?) va → Rp K H11 (d2Of (w0 :: ws)[2]?) vc →
                    tSeq (tAsg (tCall (spWrong K) [] E0 (tCons (tVar 2) (tCons (tVar 5) tNil))) (gName 4)) (tAsg (tCB (rTupOf' K) (tCons (tSl (rSlL K) (tVar 5) (tPart (tC (.int 1))) tNoPart) tNil)) (gName 3)) D2 [some (.str (S l)), some v1, some (.ref p2), some .non, some (.int 0), some (.ref pf)] H11 := fun {H11 vc D2} hD2 x11 h11 q1 q2 => by
                  have x311 := x37.trans x11
                  exact crowd_rest (D := { nx := fun _ H' => Q .non H', rt := Q }) (Q := Q) rfl hD2 (x13.trans x311) ((VP.l (TW TT) K _).st x311 r13) ((VP.l (TW TT) K _).st x311 r23) (x11.2.2 _ _ hp2 np2) npf h11 (by rw [hcr]; exact rp_str.mpr rfl) q1 q2 hz kk
                have e2 : ∀ {H12 : Hp}, Wx (TW TT) H10 H12 → Ev (TW TT) K (tOp (rIx K) (tVar 5) (tC (.int 2))) [some (.str (S l)), some v1, some (.ref p2), some .non, some (.int 0), some (.ref pf)] H12 (match (w0 :: ws)[2]? with | some x => optL (listOf x) | none => .none) := fun x12 =>
                  ev_ixL (i := 2) (j := 2) (ds := [.str (S w0), d1Of (w0 :: ws)[1]?, (match (w0 :: ws)[2]? with | some x => optL (listOf x) | none => .none)]) (evp_var (p := VP.s (TW TT) K _) rfl ⟨pf, _, rfl, .inl ⟨SqL.of (x12.2.2 _ _ h10 npf), npf⟩, x12.rps (rps_cons.mpr ⟨_, _, rfl, by rw [hcr]; exact rp_str.mpr rfl, rps_cons.mpr ⟨_, _, rfl, ra10, Rps.one rb10⟩⟩)⟩) ev_int (ixN_nat (j := 2) (by simp)) rfl
                have cases2 : ((match (w0 :: ws)[2]? with | some x => optL (listOf x) | none => PyData.none) = .none ∧ d2Of (w0 :: ws)[2]? = .none) ∨ ∃ ns : List Int, (match (w0 :: ws)[2]? with | some x => optL (listOf x) | none => PyData.none) = .tuple (ns.map .int) ∧ d2Of (w0 :: ws)[2]? = (if 80 < ns.length then .none else .tuple (ns.map .int)) := by
                  cases (w0 :: ws)[2]? with
                  | none => exact .inl ⟨rfl, rfl⟩
                  | some x =>
                    unfold d2Of
                    dsimp only
                    cases listOf x with
                    | none => exact .inl ⟨rfl, rfl⟩
                    | some ns => exact .inr ⟨ns, rfl, rfl⟩
                rcases cases2 with ⟨q1, q2⟩ | ⟨ns, q1, q2⟩
                · rw [q1] at rb10
                  refine if_then (W := TW TT) (b := false) y10.2.1 (et_is (et_and (b := false) (et_of (ev_notN (by have := e2 (Wx.refl y10.2.1); rw [q1] at this; exact this) ev_non)) (fun z => by cases z)) rfl) (fun z => by cases z) fun _ H11 x11 => ?_
                  exact fin rfl (x810.trans x11) (x11.2.2 _ _ h10 npf) (x11.rp ra10) (by rw [q2]; exact x11.rp rb10)
                · rw [q1] at rb10
                  have e3 : ∀ {H12 : Hp}, Wx (TW TT) H10 H12 → Ev (TW TT) K (tOp (rIx K) (tVar 5) (tC (.int 2))) [some (.str (S l)), some v1, some (.ref p2), some .non, some (.int 0), some (.ref pf)] H12 (.tuple (ns.map .int)) := fun x12 => by
                    have := e2 x12
                    rw [q1] at this
                    exact this
                  refine if_then (W := TW TT) y10.2.1 (et_and (et_of (ev_notN (e3 (Wx.refl y10.2.1)) ev_non)) fun _ => et_of (ev_opB0 (ev_len (es_of_t (e3 (Wx.refl y10.2.1)))) ev_int)) (fun hb8 H11 x11 => ?_) fun hb8 H11 x11 => ?_
                  · have h80 : 80 < ns.length := by
                      simp only [isNone, Bool.not_false, Bool.true_and, decide_eq_true_eq, List.length_map] at hb8
                      omega
                    have h11 := x11.2.2 _ _ h10 npf
                    refine ⟨_, rfl, pf, [.str (Str.ofString "crowd"), va, vb], 2, 2, rfl, rfl, h11, rfl, ?_⟩
                    have hn7 : H7 pf = none := x8.fresh hn
                    have y12 := Wx.mut (x810.trans x11) (o' := .lst ([.str (Str.ofString "crowd"), va, vb].set 2 .non)) hn7 h11 rfl
                    have kt2 : KeepT H11 (upd H11 pf (.lst ([.str (Str.ofString "crowd"), va, vb].set 2 .non))) := KeepT.mut h11 rfl
                    exact fin rfl y12 upd_same (Rp.mono kt2 _ _ (x11.rp ra10)) (by rw [q2, if_pos h80]; exact rp_non.mpr rfl)
                  · have h80 : ¬ 80 < ns.length := by
                      simp only [isNone, Bool.not_false, Bool.true_and, decide_eq_false_iff_not, List.length_map] at hb8
                      omega
                    exact fin rfl (x810.trans x11) (x11.2.2 _ _ h10 npf) (x11.rp ra10) (by rw [q2, if_neg h80]; exact x11.rp rb10)
              · have hnc : ¬ S w0 = tCrowd := of_decide_eq_false hb7
                have x37 := ((x4.trans x5).trans x6).trans x7
                refine rp_tail (fd := .none) (wd := .int 0) (Q := Q) rfl (x13.trans x37) ((VP.l (TW TT) K _).st x37 r13) ((VP.l (TW TT) K _).st x37 r23) (rp_non.mpr rfl) (rp_int.mpr rfl) (fun z => by cases z) fun v H' x' r' => kk v H' x' ?_
                have hrl : readLine (w0 :: ws) = .bad 0 := by
                  unfold readLine
                  dsimp only
                  rw [if_neg (by rw [hc]; decide), if_neg hnc, if_neg hnm, if_neg hnp, if_neg hnv]
                rw [hrl]
                exact r'
end
end Fd
-- Rv
namespace Fd
open PySem PySem.Spec PyProof.Rows L2 HT
theorem adj_rev (n : Nat) : Builtin.Slice.sliceAdjust none none (-1) (n : Int) = ((n : Int) - 1, -1) := by
  unfold Builtin.Slice.sliceAdjust
  simp
theorem places_rev (n : Nat) : Builtin.Slice.slicePlaces ((n : Int) - 1) (-1) (-1) = n := by
  unfold Builtin.Slice.slicePlaces
  simp
  omega
theorem fm_congr {α β : Type} {f g : α → Option β} : ∀ {l : List α}, (∀ x ∈ l, f x = g x) → l.filterMap f = l.filterMap g
  | [], _ => rfl
  | a :: l, h => by
    rw [List.filterMap_cons, List.filterMap_cons, h a (List.mem_cons_self ..), fm_congr fun x hx => h x (List.mem_cons_of_mem _ hx)]
theorem pick_rev (xs : Array Value) : ((List.range xs.size).filterMap fun (m : Nat) => xs[((xs.size : Int) - 1 + (m : Int) * (-1)).toNat]?).toArray = xs.toList.reverse.toArray := by
  have e : (List.range xs.size).filterMap (fun (m : Nat) => xs[((xs.size : Int) - 1 + (m : Int) * (-1)).toNat]?) = ((List.range xs.size).map fun k => xs.size - 1 - k).filterMap (xs[·]?) := by
    rw [List.filterMap_map]
    refine fm_congr fun m hm => ?_
    have : m < xs.size := List.mem_range.mp hm
    show xs[((xs.size : Int) - 1 + (m : Int) * (-1)).toNat]? = xs[xs.size - 1 - m]?
    rw [show ((xs.size : Int) - 1 + (m : Int) * (-1)).toNat = xs.size - 1 - m by omega]
  rw [e, PySem.W.krv_range, List.filterMap_reverse, PySem.W.krv_all]
section
variable {prog : Program} {w : World} {A : Around} {E : Value → Shared → Prop} {s : Shared}
theorem getItem_tuple_rev {t sl : Addr} {items : Array Value} {vl vu vs : Value} {Q : Value → Shared → Prop} (ht : IsTup s.heap t items) (hs : s.heap.IsSliceOf sl vl vu vs) (pl : IsPart vl none) (pu : IsPart vu none) (ps : IsPart vs (some (-1)))
    (h : Q (.ref s.heap.objs.size) { s with heap := s.heap.push { cls := .type "tuple", data := .seq items.toList.reverse.toArray } })
    (hsz : items.size ≤ sizeLine) : wpAny (model prog w) A (getItem (.ref t) (.ref sl)) Q E s := by
  have htake : sizeOk (.seq items.toList.reverse.toArray) := by
    show items.toList.reverse.toArray.size ≤ sizeLine
    rw [List.size_toArray, List.length_reverse, Array.length_toList]
    exact hsz
  obtain ⟨os, hos, hcs, hds⟩ := id hs
  have hTs : s.TypeIs (.ref sl) "slice" := ⟨os, hos, hcs⟩
  unfold getItem
  try with_reducible refine wpAny_holding ?_
  first | refine wpAny_bind (wpAny_pure ?_) | skip
  refine wpAny_bind (wpAny_sequenceKey ht.typeIs (by decide) ?_)
  refine wpAny_bind (wpAny_callSpecial?_slot (name := Str.ofString "__getitem__") ht.typeIs PyProof.Rows.slot_tuple_getitem
    (wpAny_call_entry PyProof.Rows.slot_tuple_getitem ht.typeIs entry_tuple_getitem ?_ (args_tuple_getitem _ _)))
  show wpAny _ _ (Builtin.Tuple.tupleItemsOf (.ref t) >>= _) _ _ s
  refine wpAny_bind (tupleItemsOf_ ht ?_)
  refine wpAny_bind (wpAny_typeOf hTs ?_)
  rw [if_pos (by decide)]
  refine wpAny_bind ?_
  unfold Builtin.Slice.sliceApplied Builtin.Slice.sliceFields
  refine wpAny_bind (wpAny_bind (wpAny_field hos hds (x := vl) rfl (wpAny_bind (wpAny_field hos hds (x := vu) rfl (wpAny_bind (wpAny_field hos hds (x := vs) rfl (wpAny_pure ?_)))))))
  refine wpAny_bind (slicePart_ ps ?_)
  show wpAny _ _ (if ((-1 : Int) == 0) = true then _ else _) _ _ s
  rw [if_neg (by decide)]
  refine wpAny_bind (slicePart_ pl (wpAny_bind (slicePart_ pu (wpAny_bind (wpAny_pure ?_)))))
  show wpAny _ _ (match Builtin.Slice.sliceAdjust none none (-1) (items.size : Int) with | (lo, hi) => pure (lo, (-1 : Int), Builtin.Slice.slicePlaces lo hi (-1))) _ _ s
  rw [adj_rev]
  show wpAny _ _ (pure ((items.size : Int) - 1, (-1 : Int), Builtin.Slice.slicePlaces ((items.size : Int) - 1) (-1) (-1))) _ _ s
  rw [places_rev]
  refine wpAny_pure ?_
  have hno : ¬ (((items.size : Int) - 1 == 0 && (-1 : Int) == 1 && items.size == items.size) = true) := by simp
  show wpAny _ _ (if ((items.size : Int) - 1 == 0 && (-1 : Int) == 1 && items.size == items.size) = true then _ else _) _ _ s
  rw [if_neg hno, pick_rev]
  first
    | exact wpAny_bind (m := Builtin.Tuple.tupleExact _) (wpAny_newObj_type (wpAny_pure ⟨_, rfl, wpAny_pure h⟩) htake)
    | exact wpAny_bind (m := Builtin.Tuple.tupleExact _) (wpAny_newObj_type (wpAny_bind (wpAny_pure (wpAny_pure ⟨_, rfl, wpAny_pure h⟩))) htake)
    | exact wpAny_bind (wpAny_bind (m := Builtin.Tuple.tupleExact _) (wpAny_newObj_type (wpAny_pure (wpAny_pure ⟨_, rfl, wpAny_pure h⟩)) htake))
    | exact wpAny_bind (wpAny_bind (m := Builtin.Tuple.tupleExact _) (wpAny_newObj_type (wpAny_pure ⟨_, rfl, wpAny_pure h⟩) htake))
end
/-- t[::-1] -/
def tRevT (K : PySem.W.Frag) (te : TE) : TE := fun σ H Q => te σ H fun x H1 => ∃ a xs, x = .ref a ∧ SqT K H1 a xs ∧ ∀ p, H1 p = none → Q (.ref p) (upd H1 p (.tup xs.reverse))
theorem pe_revT {X : Cx} {e : Expr} {te : TE} {k : Nat} {p1 p2 p3 pos : Pos} (he : PE X e te) : PE X (.Subscript e (.Slice none none (some (.UnaryOp .USub (.Constant (.int 1) k p1) p2)) p3) pos) (tRevT X.K te) := by
  refine ⟨fun pins s σ H Q I h => ?_⟩
  refine Subscript_ (thn (he.run pins s σ H _ I h) fun v s1 ⟨x, H1, I1, r1, q1⟩ => ?_)
  obtain ⟨a, xs, ex, hx, q⟩ := q1
  subst ex
  cases r1
  have hst : PO X (some (.UnaryOp .USub (.Constant (.int 1) k p1) p2)) (tPart (tUn (rU fun i => .int (-i)) (tC (.int 1)))) := po_some (pe_un un_neg pe_int)
  refine wpAny_Slice (thn (po_none.run pins s1 σ H1 (fun o H2 => o = none ∧ H2 = H1) I1 ⟨rfl, rfl⟩) fun vl s2 ⟨l, H2, I2, pl, el, e2⟩ => ?_)
  subst el e2
  refine thn (po_none.run pins s2 σ H2 (fun o H3 => o = none ∧ H3 = H2) I2 ⟨rfl, rfl⟩) fun vu s3 ⟨u, H3, I3, pu, eu, e3⟩ => ?_
  subst eu e3
  refine thn (hst.run pins s3 σ H3 (fun o H4 => o = some (-1) ∧ H4 = H3) I3 ⟨1, rfl, -1, rfl, rfl, rfl⟩) fun vs s4 ⟨o, H4, I4, ps, eo, e4⟩ => ?_
  subst eo e4
  have I5 : Inv X pins σ H4 { s4 with heap := s4.heap.push { cls := .type "slice", data := .fields #[vl, vu, vs] } } := I4.kept (t' := s4.toks) fun b ob q => Heap.get?_push_of_some _ q
  obtain ⟨its, r, ht, hz⟩ := I5.tuple hx
  have hlen := r.length
  show wpAny (model X.prog X.w) X.A (subscriptTail e (.Slice none none (some (.UnaryOp .USub (.Constant (.int 1) k p1) p2)) p3) (.ref a) (.ref s4.heap.objs.size)) (EP X pins σ Q) X.xe { s4 with heap := s4.heap.push { cls := .type "slice", data := .fields #[vl, vu, vs] } }
  refine tail_any (ops := [.ref a, .ref s4.heap.objs.size]) ht.typeIs (PyProof.Rows.slot_tuple_getitem.lookup) ?_ (by with_unfolding_all rfl)
  refine getItem_tuple_rev ht (Heap.IsSliceOf.new _ vl vu vs) pl pu ps ?_ (by rw [List.size_toArray]; omega)
  refine ⟨.ref _, _, I5.laid (t' := s4.toks) (o := .tup xs.reverse) (fun b ob q => Heap.get?_push_of_some _ q) (Nat.le_refl _) ?_, rfl, q _ (I5.hok.fresh (Nat.le_refl _))⟩
  exact ⟨by rw [List.length_reverse]; exact hz, _, r.reverse, IsTup.new _ _⟩
theorem ev_revT {W : Wd} {K : PySem.W.Frag} {σ : L2.St} {H : Hp} {te : TE} {ds : List PyData} (h : Ev W K te σ H (.tuple ds)) : Ev W K (tRevT K te) σ H (.tuple ds.reverse) := fun H1 x Q k =>
  h H1 x _ fun v H2 x2 hv => by
    obtain ⟨a, xs, e, s1, s2⟩ := rp_tup.mp hv
    exact ⟨a, xs, e, s1, fun p hp => k _ _ (x2.trans (Wx.new x2.2.1 hp)) (rp_tup.mpr ⟨p, _, rfl, SqT.of upd_same, (Wx.new x2.2.1 hp).rps s2.rev⟩)⟩
end Fd
-- J6
namespace Fd
open PySem PySem.Spec PyProof.Rows L2 LamX NdefX
/-- data to be bent: of so many tuples one in another -/
def okB : Nat → PyData → Prop
  | _, .none => True
  | _, .bool _ => True
  | _, .int i => i.natAbs < 2 ^ 100
  | _, .str _ => True
  | 0, .tuple _ => False
  | n + 1, .tuple ds => ds.length ≤ 5000 ∧ ∀ d ∈ ds, okB n d
  | _, .list _ => False
  | _, .dict _ => False
def isT (m : Nat) (d : PyData) : Prop := ∃ ds, d = .tuple ds ∧ ds.length ≤ m
section
variable {W : Wd} {K : PySem.W.Frag} {σ : L2.St} {H : Hp} {ta tb te : TE} {Pd : PyData → Prop} {m k : Nat} {d : PyData} {ds : List PyData}
theorem evx_tup1 (h : EvX W K te σ H Pd) : EvX W K (tTup (tCons te tNil)) σ H (isT 1) := fun H1 x Q kq =>
  h H1 x _ fun v H2 x2 ⟨d, hd, r⟩ => ⟨(by show 1 ≤ sizeLine; decide), fun p hp => kq _ _ (x2.trans (Wx.new x2.2.1 hp)) ⟨.tuple [d], ⟨[d], rfl, Nat.le_refl _⟩, rp_tup.mpr ⟨p, _, rfl, SqT.of upd_same, Rps.one ((Wx.new x2.2.1 hp).rp r)⟩⟩⟩
theorem evx_catT (ha : EvX W K ta σ H (isT m)) (hb : EvX W K tb σ H (isT k)) (hl : m + k ≤ 10000000) : EvX W K (tOp (rCatA K) ta tb) σ H (isT (m + k)) := fun H1 x Q kq =>
  ha H1 x _ fun v H2 x2 ⟨d, ⟨ds, e, hd⟩, r⟩ => hb H2 (x.trans x2) _ fun u H3 x3 ⟨d', ⟨es, e', hd'⟩, r'⟩ => by
    subst e e'
    refine (ev_catT (K := K) (W := W) (σ := σ) (H := H3) (ta := tC v) (tb := tC u) (ds := ds) (es := es) (fun H4 x4 Q k => k v H4 (Wx.refl x4.2.1) ((x3.trans x4).rp r)) (fun H4 x4 Q k => k u H4 (Wx.refl x4.2.1) (x4.rp r')) (by omega)).run x3.2.1 fun y H4 x4 hy => ?_
    exact kq y H4 ((x2.trans x3).trans x4) ⟨.tuple (ds ++ es), ⟨ds ++ es, rfl, by rw [List.length_append]; omega⟩, hy⟩
theorem evx_T (h : Ev W K te σ H (.tuple ds)) (hl : ds.length ≤ m) : EvX W K te σ H (isT m) := evx_d h ⟨ds, rfl, hl⟩
theorem ev_strO {i : Int} (h : Ev W K te σ H (.int i)) (hl : i.natAbs < 2 ^ 100) : Ev W K (tCB (fun xs H Q => (∃ i, xs = [.int i] ∧ i.natAbs.log2 < 1920 ∧ Q (.str (toString i)) H) ∨ ∃ a, xs = [.str a] ∧ Q (.str a) H) (tCons te tNil)) σ H (.str (toString i)) :=
  evp_cb1 h fun x H jH hx Q k => .inl ⟨i, by rw [rp_int.mp hx], by
    by_cases h0 : i.natAbs = 0
    · rw [h0]; decide
    · exact Nat.lt_of_lt_of_le ((Nat.log2_lt h0).mpr hl) (by decide), k _ H (Wx.refl jH) (rp_str.mpr rfl)⟩
end
theorem cut_len (ds : List PyData) (lo hi : Option Int) : (cutD ds lo hi).length ≤ ds.length := by
  unfold cutD
  rw [List.length_take, List.length_drop]
  omega
def spBent (K : PySem.W.Frag) (TT : List NTab) : Nat → Sp
  | 0 => fun _ _ _ _ => False
  | n + 1 => SpJ K TT fun ds Pd => ∃ d, ds = [d] ∧ okB n d ∧ Pd = fun _ => True
section
variable {P : Program} {w : World} {K : PySem.W.Frag} {mg : Str → Option Value} {base : Heap} {TT : List NTab}
theorem cd__law_bent (T : Tx K mg) : ∀ n, Cd P w K mg base CX0 (3 + n) "_law_bent" (spBent K TT n)
  | 0 => by
    refine cd_of (k := 2) T.d__law_bent sc__law_bent (fun _ _ _ _ _ _ us hl => match us, hl with | [_, _], _ => rfl) (fun vs H Q E h => h.elim) ?_
    intro f cdv A outer s H vs Q E hr h
    exact h.elim
  | n + 1 => by
    have IH := cd__law_bent T n
    refine cd_of (k := 3 + n) T.d__law_bent sc__law_bent (fun _ _ _ _ _ _ us hl => match us, hl with | [_, _], _ => rfl) (SpJ.len fun ds r h => by obtain ⟨_, e, _⟩ := h; rw [e]; rfl) ?_
    intro f cdv A outer s H vs Q E hr ⟨j, us, ds, Pd, e, g, hs, ⟨d, e1, hd, e2⟩, kk⟩
    subst e e1 e2
    obtain ⟨v1, e, r1⟩ := rps1 hs
    subst e
    refine ⟨_, (pss_cons (ps_if (pt_not (pt_val (pe_callB (kIsi K) (by rfl) T.n_isinstance (by decide +kernel) (pa_cons (pv 1) (pa_cons (pe_bltn (v := .ty "tuple") (u := .type "tuple") (by rfl) T.n_tuple (by decide +kernel) rfl) pa_nil)))))
      (pss_cons (ps_if (PW.pt (pw_and (pt_val (pe_callB (kIsi K) (by rfl) T.n_isinstance (by decide +kernel) (pa_cons (pv 1) (pa_cons (pe_bltn (v := .ty "int") (u := .type "int") (by rfl) T.n_int (by decide +kernel) rfl) pa_nil)))) (pw_and1 (pt_not (pt_val (pe_callB (kIsi K) (by rfl) T.n_isinstance (by decide +kernel) (pa_cons (pv 1) (pa_cons (pe_bltn (v := .ty "bool") (u := .type "bool") (by rfl) T.n_bool (by decide +kernel) rfl) pa_nil))))))))
        (pss_one (ps_ret (pe_d (cd__law_one (TT := TT) T) hr (by omega) (pa_cons (pv 0) (pa_cons (pe_lst (pa_cons (pe_op op_add (pv 1) pe_int) (pa_cons (pe_op op_sub (pv 1) pe_int) (pa_cons (pe_op op_add (pv 1) pe_int) (pa_cons (pe_un un_neg (pv 1)) (pa_cons pe_bl (pa_cons pe_non (pa_cons (pe_callTy (CallR.or call_str_int SkE.call_str_str) (by rfl) T.n_str (by decide +kernel) (pa_cons (pv 1) pa_nil)) (pa_cons (pe_tup (pa_cons (pv 1) pa_nil)) pa_nil))))))))) pa_nil))))) pss_nil)
      (pss_one (ps_ret (pe_d (cd__law_one (TT := TT) T) hr (by omega) (pa_cons (pv 0) (pa_cons (pe_lst (pa_cons pe_non (pa_cons pe_int (pa_cons pe_str (pa_cons (pe_tup pa_nil) (pa_cons pe_bl (pa_cons (pv 1) pa_nil))))))) pa_nil)))))) pss_nil)
    (pss_cons (ps_set (i := 2) sc__law_bent.nd rfl (Or.inl rfl) (pe_d (cd__law_take T) hr (by omega) (pa_cons (pv 0) (pa_cons pe_int pa_nil))))
    (pss_cons (ps_if (PW.pt (pw_or (pt_cmpR (op_eq0 hr.units0) (pv 1) (pe_tup pa_nil) (nomark _)) (pw_or1 (pt_cmpR op_eq (pv 2) pe_int (nomark _)))))
      (pss_one (ps_ret (pe_d (cd__law_one (TT := TT) T) hr (by omega) (pa_cons (pv 0) (pa_cons (pe_lst (pa_cons pe_non (pa_cons pe_int (pa_cons pe_str (pa_cons pe_bl (pa_cons (pe_tup (pa_cons pe_non pa_nil)) (pa_cons (pe_tup (pa_cons (pe_tup pa_nil) pa_nil)) (pa_cons (pe_tup (pa_cons pe_int pa_nil)) pa_nil)))))))) pa_nil))))) pss_nil)
    (pss_cons (ps_par (i := 3) (j := 4) rfl sc__law_bent.nd rfl rfl (by decide) rfl rfl (pa_cons (pe_d (cd__law_take T) hr (by omega) (pa_cons (pv 0) (pa_cons (pe_callB (kLen K) (by rfl) T.n_len PySem.boot_len (pa_cons (pv 1) pa_nil)) pa_nil))) (pa_cons (pe_d (cd__law_one (TT := TT) T) hr (by omega) (pa_cons (pv 0) (pa_cons (pv 1) pa_nil))) pa_nil)) (by rfl))
    (pss_cons (ps_if (pt_cmpR op_eq (pv 2) pe_int (nomark _))
      (pss_one (ps_ret (pe_op op_catA (pe_slice (kSl K) (pv 1) po_none (po_some (pv 3))) (pe_slice (kSl K) (pv 1) (po_some (pe_op op_add (pv 3) pe_int)) po_none)))) pss_nil)
    (pss_cons (ps_if (pt_cmpR op_lt (pv 2) pe_int (nomark _))
      (pss_one (ps_ret (pe_op op_catA (pe_op op_catA (pe_slice (kSl K) (pv 1) po_none (po_some (pv 3))) (pe_tup (pa_cons (pv 4) pa_nil))) (pe_slice (kSl K) (pv 1) (po_some (pe_op op_sub (pe_op op_add (pv 3) (pv 2)) pe_int)) po_none)))) pss_nil)
    (pss_cons (ps_if (pt_cmpR op_eq (pv 2) pe_int (nomark _))
      (pss_one (ps_ret (pe_revT (pv 1)))) pss_nil)
    (pss_one (ps_ret (pe_op op_catA (pe_op op_catA (pe_slice (kSl K) (pv 1) po_none (po_some (pv 3))) (pe_tup (pa_cons (pe_d IH hr (Nat.le_refl _) (pa_cons (pv 0) (pa_cons (pe_ix (ixT K) (pv 1) (pv 3) (fun _ _ => rfl)) pa_nil))) pa_nil))) (pe_slice (kSl K) (pv 1) (po_some (pe_op op_add (pv 3) pe_int)) po_none))))))))))), ?_⟩
    have x0 : Wx (GW TT j) H H := Wx.refl g
    have any : ∀ {te : TE} {σ : L2.St} {H' : Hp} {D : Ends} {Pe : PyData → Prop}, D.rt = Q → Wx (GW TT j) H H' → EvX (GW TT j) K te σ H' Pe → tRet te D σ H' := fun hD x h => retJ kk x (evx_imp h fun _ _ => trivial) hD
    refine if_then (W := GW TT j) g (et_not (et_B (ev_isTup (ev_var rfl r1)))) (fun hb H1 x1 => ?_) fun hb H1 x1 => ?_
    · replace r1 := x1.rp r1
      have hnt : isTup d = false := by simpa using hb
      cases d with
      | tuple ds => cases hnt
      | list ds => exact (rp_list r1).elim
      | dict ds => exact (rp_dict r1).elim
      | int i =>
        refine if_then (W := GW TT j) x1.2.1 (et_and (et_B (ev_isInt (ev_var rfl r1))) fun _ => et_not (et_B (ev_isBool (ev_var rfl r1)))) (fun _ H2 x2 => ?_) fun hb2 => by cases hb2
        replace r1 := x2.rp r1
        have hi : i.natAbs < 2 ^ 100 := by
          cases n <;> exact hd
        exact any rfl (x1.trans x2) (ev_one rfl (es_of_l (el_lst (ea_cons (ev_opI0 (ev_var rfl r1) ev_int) (ea_cons (ev_opI0 (ev_var rfl r1) ev_int) (ea_cons (ev_opI0 (ev_var rfl r1) ev_int) (ea_cons (ev_neg (ev_var rfl r1)) (ea_cons ev_bl (ea_cons ev_non (ea_cons (ev_strO (ev_var rfl r1) hi) (ea_cons (ev_tup (ea_cons (ev_var rfl r1) ea_nil) (by simp)) ea_nil)))))))) (by simp))) (by simp) (by simp))
      | none =>
        refine if_then (W := GW TT j) x1.2.1 (et_and (et_B (ev_isInt (ev_var rfl r1))) fun _ => et_not (et_B (ev_isBool (ev_var rfl r1)))) (fun hb2 => by cases hb2) fun _ H2 x2 => ?_
        replace r1 := x2.rp r1
        exact any rfl (x1.trans x2) (ev_one rfl (es_of_l (el_lst (ea_cons ev_non (ea_cons ev_int (ea_cons ev_str (ea_cons (ev_tup ea_nil) (ea_cons ev_bl (ea_cons (ev_var rfl r1) ea_nil)))))) (by simp))) (by simp) (by simp))
      | bool b =>
        refine if_then (W := GW TT j) x1.2.1 (et_and (et_B (ev_isInt (ev_var rfl r1))) fun _ => et_not (et_B (ev_isBool (ev_var rfl r1)))) (fun hb2 => by cases hb2) fun _ H2 x2 => ?_
        replace r1 := x2.rp r1
        exact any rfl (x1.trans x2) (ev_one rfl (es_of_l (el_lst (ea_cons ev_non (ea_cons ev_int (ea_cons ev_str (ea_cons (ev_tup ea_nil) (ea_cons ev_bl (ea_cons (ev_var rfl r1) ea_nil)))))) (by simp))) (by simp) (by simp))
      | str z =>
        refine if_then (W := GW TT j) x1.2.1 (et_and (et_B (ev_isInt (ev_var rfl r1))) fun _ => et_not (et_B (ev_isBool (ev_var rfl r1)))) (fun hb2 => by cases hb2) fun _ H2 x2 => ?_
        replace r1 := x2.rp r1
        exact any rfl (x1.trans x2) (ev_one rfl (es_of_l (el_lst (ea_cons ev_non (ea_cons ev_int (ea_cons ev_str (ea_cons (ev_tup ea_nil) (ea_cons ev_bl (ea_cons (ev_var rfl r1) ea_nil)))))) (by simp))) (by simp) (by simp))
    · replace r1 := x1.rp r1
      have hit : isTup d = true := by simpa using hb
      cases d with
      | tuple ds =>
        obtain ⟨n, rfl⟩ : ∃ k, n = k + 1 := by
          cases n with
          | zero => exact hd.elim
          | succ k => exact ⟨k, rfl⟩
        obtain ⟨hl, hds⟩ := hd
        refine set_then (W := GW TT j) (p := VP.ex _ K (inR 12)) x1.2.1 (ev_take rfl ev_int (by decide) (by decide)) fun vw H2 x2 ⟨dw, ⟨way, ew, w0, w1⟩, rw_⟩ => ?_
        subst ew
        replace r1 := x2.rp r1
        have x12 := x1.trans x2
        refine if_then (W := GW TT j) x2.2.1 (et_or (et_of (ev_eq0T (ev_var rfl r1))) fun _ => et_of (ev_eqI (ev_var rfl rw_) ev_int)) (fun hb2 H3 x3 => ?_) fun hb2 H3 x3 => ?_
        · exact any rfl (x12.trans x3) (ev_one rfl (es_of_l (el_lst (ea_cons ev_non (ea_cons ev_int (ea_cons ev_str (ea_cons ev_bl (ea_cons (ev_tup (ea_cons ev_non ea_nil) (by simp)) (ea_cons (ev_tup (ea_cons (ev_tup ea_nil) ea_nil) (by simp)) (ea_cons (ev_tup (ea_cons ev_int ea_nil) (by simp)) ea_nil))))))) (by simp))) (by simp) (by simp))
        · replace r1 := x3.rp r1
          replace rw_ := x3.rp rw_
          have hne : ds ≠ [] := fun z => by
            rw [z] at hb2
            simp at hb2
          have hpos : 1 ≤ ds.length := by
            cases ds with
            | nil => exact (hne rfl).elim
            | cons _ _ => simp
          have x13 := x12.trans x3
          refine par_then (W := GW TT j) (p := VP.ex _ K (inR ds.length)) (q := VP.ex _ K (fun d => d ∈ ds)) x3.2.1 (ev_take rfl (ev_len (es_of_t (ev_var rfl r1))) (by omega) (by omega)) (ev_one rfl (es_of_t (ev_var rfl r1)) hne (by omega)) fun va vp H4 x4 ⟨da, ⟨at_, ea, a0, a1⟩, ra⟩ ⟨dp, hp, rp⟩ => ?_
          subst ea
          replace r1 := x4.rp r1
          replace rw_ := x4.rp rw_
          have x14 := x13.trans x4
          refine if_then (W := GW TT j) x4.2.1 (et_of (ev_eqI (ev_var rfl rw_) ev_int)) (fun hb3 H5 x5 => ?_) fun hb3 H5 x5 => ?_
          · replace r1 := x5.rp r1
            replace ra := x5.rp ra
            exact any rfl (x14.trans x5) (evx_catT (m := 5000) (k := 5000) (evx_T (ev_slT (ev_var rfl r1) eo_none (eo_some (ev_var rfl ra))) (Nat.le_trans (cut_len _ _ _) hl)) (evx_T (ev_slT (ev_var rfl r1) (eo_some (ev_opI0 (ev_var rfl ra) ev_int)) eo_none) (Nat.le_trans (cut_len _ _ _) hl)) (by decide))
          · replace r1 := x5.rp r1
            replace ra := x5.rp ra
            replace rw_ := x5.rp rw_
            replace rp := x5.rp rp
            have x15 := x14.trans x5
            refine if_then (W := GW TT j) x5.2.1 (et_of (ev_opB0 (ev_var rfl rw_) ev_int)) (fun hb4 H6 x6 => ?_) fun hb4 H6 x6 => ?_
            · replace r1 := x6.rp r1
              replace ra := x6.rp ra
              replace rw_ := x6.rp rw_
              replace rp := x6.rp rp
              exact any rfl (x15.trans x6) (evx_catT (m := 5001) (k := 5000) (evx_catT (m := 5000) (k := 1) (evx_T (ev_slT (ev_var rfl r1) eo_none (eo_some (ev_var rfl ra))) (Nat.le_trans (cut_len _ _ _) hl)) (evx_T (ev_tup (ea_cons (ev_var rfl rp) ea_nil) (by simp)) (by simp)) (by decide)) (evx_T (ev_slT (ev_var rfl r1) (eo_some (ev_opI0 (ev_opI0 (ev_var rfl ra) (ev_var rfl rw_)) ev_int)) eo_none) (Nat.le_trans (cut_len _ _ _) hl)) (by decide))
            · replace r1 := x6.rp r1
              replace ra := x6.rp ra
              replace rw_ := x6.rp rw_
              have x16 := x15.trans x6
              refine if_then (W := GW TT j) x6.2.1 (et_of (ev_eqI (ev_var rfl rw_) ev_int)) (fun hb5 H7 x7 => ?_) fun hb5 H7 x7 => ?_
              · exact any (Pe := fun _ => True) rfl (x16.trans x7) (evx_d (ev_revT (ev_var rfl (x7.rp r1))) trivial)
              · replace r1 := x7.rp r1
                replace ra := x7.rp ra
                have hat : at_.toNat < ds.length := by omega
                have hix : ixN ds.length at_ = some at_.toNat := by
                  have := ixN_nat (n := ds.length) (j := at_.toNat) hat
                  rw [show ((at_.toNat : Nat) : Int) = at_ by omega] at this
                  exact this
                exact any rfl (x16.trans x7) (evx_catT (m := 5001) (k := 5000) (evx_catT (m := 5000) (k := 1) (evx_T (ev_slT (ev_var rfl r1) eo_none (eo_some (ev_var rfl ra))) (Nat.le_trans (cut_len _ _ _) hl)) (evx_tup1 (Pd := fun _ => True) (ev_callJ rfl (ea_cons (ev_ixT (ev_var rfl r1) (ev_var rfl ra) hix (List.getElem?_eq_getElem hat)) ea_nil) ⟨_, rfl, hds _ (List.getElem_mem hat), rfl⟩)) (by decide)) (evx_T (ev_slT (ev_var rfl r1) (eo_some (ev_opI0 (ev_var rfl ra) ev_int)) eo_none) (Nat.le_trans (cut_len _ _ _) hl)) (by decide))
      | none => cases hit
      | bool b => cases hit
      | int i => cases hit
      | str z => cases hit
      | list ds => cases hit
      | dict ds => cases hit
end
end Fd
-- Tb
/-! Texts of bounded length, words of bounded length in all. -/
namespace Fd
open PySem PySem.Spec PyProof.Rows L2 LamX NdefX
def tot (ws : List (List Nat)) : Nat := (ws.map fun w => w.length + 1).sum
theorem tot_nil : tot [] = 0 := rfl
theorem tot_cons (w : List Nat) (ws : List (List Nat)) : tot (w :: ws) = w.length + 1 + tot ws := by unfold tot; rw [List.map_cons, List.sum_cons]
theorem tot_app : ∀ (a b : List (List Nat)), tot (a ++ b) = tot a + tot b
  | [], b => by rw [List.nil_append, tot_nil, Nat.zero_add]
  | w :: a, b => by rw [List.cons_append, tot_cons, tot_cons, tot_app a b]; omega
theorem tot_cut (a : List (List Nat)) (k : Nat) : tot (a.take k) + tot (a.drop k) = tot a := by rw [← tot_app, List.take_append_drop]
theorem tot_spl (c : Nat) : ∀ (l acc : List Nat), tot (TL.spl [c] 0 acc l) = acc.length + l.length + 1
  | [], acc => by rw [TL.spl_nil, tot_cons, tot_nil]; simp
  | d :: r, acc => by
    by_cases h : d = c
    · subst h
      rw [TL.spl_hit (by simp [TL.pre])]
      show tot (acc :: TL.spl [d] 0 [] r) = _
      rw [tot_cons, tot_spl d r []]
      simp only [List.length_cons, List.length_nil]
      omega
    · rw [TL.spl_miss (TL.pre_of_head [] r h), tot_spl c r (acc ++ [d])]
      simp only [List.length_cons, List.length_append, List.length_nil]
      omega
theorem tot_set : ∀ (ws : List (List Nat)) (i : Nat) (a w : List Nat), ws[i]? = some w → tot (ws.set i a) + w.length = tot ws + a.length
  | [], i, a, w, h => by simp at h
  | x :: ws, 0, a, w, h => by
    have : x = w := by simpa using h
    subst this
    show tot (a :: ws) + x.length = _
    rw [tot_cons, tot_cons]
    omega
  | x :: ws, i + 1, a, w, h => by
    have := tot_set ws i a w (by simpa using h)
    show tot (x :: ws.set i a) + w.length = _
    rw [tot_cons, tot_cons]
    omega
theorem tot_swap {ws : List (List Nat)} {i j : Nat} {a b : List Nat} (hi : ws[i]? = some a) (hj : ws[j]? = some b) : tot ((ws.set i b).set j a) = tot ws := by
  by_cases e : i = j
  · subst e
    rw [hi] at hj
    cases hj
    have h1 := tot_set ws i a a hi
    have h2 := tot_set (ws.set i a) i a a (by rw [List.getElem?_set_self (List.getElem?_eq_some_iff.mp hi).1])
    omega
  · have h1 := tot_set ws i b a hi
    have h2 := tot_set (ws.set i b) j a b (by rw [List.getElem?_set_ne e]; exact hj)
    omega
theorem tot_len : ∀ ws : List (List Nat), ws.length ≤ tot ws
  | [] => Nat.le_refl _
  | w :: ws => by
    have := tot_len ws
    rw [tot_cons, List.length_cons]
    omega
theorem tot_rep (ws : List (List Nat)) : ∀ k, tot (List.replicate k ws).flatten = k * tot ws
  | 0 => by rw [Nat.zero_mul]; rfl
  | k + 1 => by
    rw [List.replicate_succ, List.flatten_cons, tot_app, tot_rep ws k, Nat.succ_mul]
    omega
/-- a text of at most m signs -/
def isTx (m : Nat) (d : PyData) : Prop := ∃ l : List Nat, d = .str (S l) ∧ l.length ≤ m
theorem isTx_of {s : Str} {m : Nat} (h : s.length ≤ m) : isTx m (.str s) := ⟨s.cps.toList, by rw [S_tl], by rw [← S_len, S_tl]; exact h⟩
def litB (m : Nat) : PyData → Bool
  | .str s => decide (s.length ≤ m)
  | _ => false
theorem lit_tx {m : Nat} {ds : List PyData} (h : ds.all (litB m) = true) : ∀ d ∈ ds, isTx m d := fun d hd => by
  have := List.all_eq_true.mp h d hd
  cases d with
  | str s => exact isTx_of (of_decide_eq_true this)
  | _ => cases this
abbrev wd (l : List Nat) : PyData := .str (S l)
theorem cutS_len (s : Str) (lo hi : Option Int) : (cutS s lo hi).length ≤ s.length := by
  show ((s.cps.toList.drop _).take _).toArray.size ≤ s.cps.size
  rw [List.size_toArray, List.length_take, List.length_drop, Array.length_toList]
  omega
theorem cut_map {α β : Type} (f : α → β) (ws : List α) (lo hi : Option Int) : ∀ (n : Nat), n = ws.length → ((ws.map f).drop (HT.sIx n 0 lo)).take (HT.sIx n n hi - HT.sIx n 0 lo) = ((ws.drop (HT.sIx n 0 lo)).take (HT.sIx n n hi - HT.sIx n 0 lo)).map f := fun n _ => by
  rw [List.map_take, List.map_drop]
/-- a list of words of so many signs in all -/
@[reducible] def VP.tl (W : Wd) (K : PySem.W.Frag) (m : Nat) : VP W := ⟨fun H v => ∃ ws, tot ws ≤ m ∧ (VP.l W K (ws.map wd)).P H v, fun {H H' v} x h => by
    obtain ⟨ws, h1, h2⟩ := h
    exact ⟨ws, h1, (VP.l W K _).st x h2⟩⟩
section
variable {W : Wd} {K : PySem.W.Frag} {σ : L2.St} {H : Hp} {ta tb te : TE} {m k : Nat} {ws : List (List Nat)} {ds : List PyData}
theorem etl_of (h : EvL W K te σ H (ws.map wd)) (hl : tot ws ≤ m) : EvP te σ H (VP.tl W K m) := EvP.imp (q := VP.tl W K m) h fun H v _ r => ⟨ws, hl, r⟩
theorem etl_one (h : EvX W K te σ H (isTx m)) : EvP (tLst (tCons te tNil)) σ H (VP.tl W K (m + 1)) := fun H1 x Q kq =>
  h H1 x _ fun v H2 x2 ⟨d, ⟨l, e, hl⟩, r⟩ => ⟨(by show 1 ≤ sizeLine; decide), fun p hp => kq _ _ (x2.trans (Wx.new x2.2.1 hp)) ⟨[l], by rw [tot_cons, tot_nil]; omega, p, [v], rfl, upd_same, Wx.nM x2.2.1 hp, Rps.one (by subst e; exact (Wx.new x2.2.1 hp).rp r)⟩⟩
theorem etl_cat (ha : EvP ta σ H (VP.tl W K m)) (hb : EvP tb σ H (VP.tl W K k)) (hl : m + k ≤ 10000000) : EvP (tOp rCat ta tb) σ H (VP.tl W K (m + k)) := fun H1 x Q kq =>
  ha H1 x _ fun v H2 x2 ⟨ws, h1, r1⟩ => hb H2 (x.trans x2) _ fun u H3 x3 ⟨vs, h2, r2⟩ => by
    have n1 := tot_len ws
    have n2 := tot_len vs
    have hc : EvL W K (tOp rCat (tC v) (tC u)) σ H3 (ws.map wd ++ vs.map wd) := el_cat (fun H4 x4 Q k => k v H4 (Wx.refl x4.2.1) ((VP.l W K _).st (x3.trans x4) r1)) (fun H4 x4 Q k => k u H4 (Wx.refl x4.2.1) ((VP.l W K _).st x4 r2)) (by rw [List.length_map, List.length_map]; omega)
    refine hc.run x3.2.1 fun y H4 x4 hy => kq y H4 ((x2.trans x3).trans x4) ⟨ws ++ vs, by rw [tot_app]; omega, by rw [List.map_append]; exact hy⟩
theorem el_rep {n : Int} (ha : EvL W K ta σ H ds) (hb : Ev W K tb σ H (.int n)) (h0 : 0 ≤ n) (h1 : n ≤ 1000) (hl : ds.length * n.toNat ≤ 10000000) : EvL W K (tOp rRep ta tb) σ H (List.replicate n.toNat ds).flatten := fun H1 x Q kq =>
  ha H1 x _ fun v H2 x2 hv => hb H2 (x.trans x2) _ fun u H3 x3 hu => by
    obtain ⟨p, xs, e, hp, np, r⟩ := (VP.l W K ds).st x3 hv
    have hfl : ∀ {H} (k : Nat), Rps K H ds xs → Rps K H (List.replicate k ds).flatten (List.replicate k xs).flatten := fun {H} k r => by
      induction k with
      | zero => exact rps_nil.mpr rfl
      | succ k ih =>
        rw [List.replicate_succ, List.replicate_succ, List.flatten_cons, List.flatten_cons]
        exact r.app ih
    refine ⟨p, n, xs, e, rp_int.mp hu, hp, by omega, by omega, by rw [r.len]; exact sz_of hl, fun q hq => ?_⟩
    exact kq _ _ ((x2.trans x3).trans (Wx.new x3.2.1 hq)) ⟨q, _, rfl, upd_same, Wx.nM x3.2.1 hq, hfl _ ((Wx.new x3.2.1 hq).rps r)⟩
theorem ev_joinTL {c : Nat} {B : Str} (e : B = S [c]) (ha : Ev W K ta σ H (.str B)) (hb : EvP tb σ H (VP.tl W K m)) (hl : m ≤ 10000000) : EvX W K (tM1 (rJoin K) ta tb) σ H (isTx m) := fun H1 x Q kq =>
  ha H1 x _ fun v H2 x2 hv => ⟨⟨B, rp_str.mp hv⟩, hb H2 (x.trans x2) _ fun u H3 x3 ⟨ws, h1, r⟩ => by
    subst e
    have e2 : ws.map wd = (ws.map S).map .str := by rw [List.map_map]; rfl
    rw [e2] at r
    have hs : EvL W K (tC u) σ H3 ((ws.map S).map .str) := fun H4 x4 Q k => k u H4 (Wx.refl x4.2.1) ((VP.l W K _).st x4 r)
    obtain ⟨p, xs, e3, h3, np, r3⟩ := r
    have hsum : ((ws.map S).map (·.length)).sum + (ws.map S).length * (S [c]).length = tot ws := by
      clear hs r3 e2 h1
      rw [S_len]
      induction ws with
      | nil => rfl
      | cons w ws ih =>
        rw [tot_cons, ← ih]
        simp only [List.map_cons, List.sum_cons, List.length_cons, List.length_nil, S_len, List.length_map]
        omega
    refine ⟨S [c], p, ws.map S, rp_str.mp hv, by rw [e3], .inl ?_, by rw [hsum]; omega, ?_⟩
    · have := r3.of_strs
      rw [this] at h3
      exact SqL.of h3
    · rw [joinS]
      exact kq _ H3 (x2.trans x3) ⟨_, ⟨TL.joinL [c] ws, rfl, Nat.le_trans (join_len c ws) h1⟩, rp_str.mpr rfl⟩⟩
theorem evx_addS {a b : Nat} (ha : EvX W K ta σ H (isTx a)) (hb : EvX W K tb σ H (isTx b)) (hl : a + b ≤ 10000000) : EvX W K (tOp (fun x y H Q => ∃ i j, x = .str i ∧ y = .str j ∧ i.length + j.length ≤ sizeLine ∧ Q (.str (i ++ j)) H) ta tb) σ H (isTx (a + b)) := fun H1 x Q kq =>
  ha H1 x _ fun v H2 x2 ⟨d, ⟨l, e, h1⟩, r⟩ => hb H2 (x.trans x2) _ fun u H3 x3 ⟨d', ⟨l', e', h2⟩, r'⟩ => by
    subst e e'
    refine ⟨S l, S l', rp_str.mp r, rp_str.mp r', sz_of (by rw [S_len, S_len]; omega), ?_⟩
    rw [SX.S_cat]
    exact kq _ H3 (x2.trans x3) ⟨_, ⟨l ++ l', rfl, by rw [List.length_append]; omega⟩, rp_str.mpr rfl⟩
theorem evx_cutS {lo hi : Option Int} {tl th : TO} {l : List Nat} (h : Ev W K te σ H (.str (S l))) (hl : l.length ≤ m) (hm : m ≤ 10000000) (h1 : EvO W tl σ H lo) (h2 : EvO W th σ H hi) : EvX W K (tSl rSlS te tl th) σ H (isTx m) :=
  evx_d (ev_slS h (by rw [S_len]; omega) h1 h2) (isTx_of (Nat.le_trans (cutS_len _ _ _) (by rw [S_len]; exact hl)))
/-- a text split: the list is new -/
theorem split_run {c : Nat} {B : Str} {l : List Nat} (hc : c < 256) (e : B = S [c]) (j : W.J H) (ha : Ev W K ta σ H (.str (S l))) (hb : Ev W K tb σ H (.str B)) (hl : l.length ≤ 1000000) {Q : VK} (k : ∀ p H2, Wx W H H2 → H p = none → H2 p = some (.lst (wordsV (TL.spl [c] 0 [] l))) → Q (.ref p) H2) :
    tM1 (fun x xs H Q => ∃ a b, x = .str a ∧ xs = [.str b] ∧ (b.length == 0) = false ∧ a.length + 2 ≤ sizeLine ∧ rNewStrs (Txt.split a b) H Q) ta tb σ H Q :=
  ha H (Wx.refl j) _ fun v H2 x2 hv => ⟨⟨S l, rp_str.mp hv⟩, hb H2 x2 _ fun u H3 x3 hu => ⟨S l, B, rp_str.mp hv, by rw [rp_str.mp hu], by rw [e]; rfl, by
    rw [S_len]
    exact Nat.le_trans (Nat.add_le_add_right hl 2) (by decide), fun p hp => by
      subst e
      have x23 := x2.trans x3
      refine k p _ (x23.trans (Wx.new x23.2.1 hp)) (x23.fresh hp) ?_
      rw [upd_same, splS l c hc, List.map_map]
      rfl⟩⟩
end
end Fd
-- J7
namespace Fd
open PySem PySem.Spec PyProof.Rows L2 LamX NdefX
theorem tx_mono {a b : Nat} {d : PyData} (h : isTx a d) (hab : a ≤ b) : isTx b d := by
  obtain ⟨l, e, hl⟩ := h
  exact ⟨l, e, Nat.le_trans hl hab⟩
section
variable {W : Wd} {K : PySem.W.Frag} {σ : L2.St} {H : Hp} {ta tb te ti : TE} {m k : Nat} {ws : List (List Nat)}
theorem el_takeW (h : EvP te σ H (VP.r W K (ws.map wd))) (hi : Ev W K ti σ H (.int (k : Nat))) : EvL W K (tSl (rSlL K) te tNoPart (tPart ti)) σ H ((ws.take k).map wd) := by
  have := el_slL h eo_none (eo_some hi)
  rw [cutD_to, ← List.map_take] at this
  exact this
theorem el_dropW {i : Int} (h : EvP te σ H (VP.r W K (ws.map wd))) (hi : Ev W K ti σ H (.int i)) (e : i = (k : Nat)) : EvL W K (tSl (rSlL K) te (tPart ti) tNoPart) σ H ((ws.drop k).map wd) := by
  subst e
  have := el_slL h (eo_some hi) eo_none
  rw [cutD_from, ← List.map_drop] at this
  exact this
theorem cutD_one (ds : List PyData) (k : Nat) (hk : k < ds.length) : cutD ds (some (k : Int)) (some ((k : Int) + 1)) = (ds.drop k).take 1 := by
  unfold cutD
  rw [show ((k : Int) + 1) = ((k + 1 : Nat) : Int) by omega, HT.sIx_nat, HT.sIx_nat, Nat.min_eq_left (by omega), Nat.min_eq_left (by omega), show k + 1 - k = 1 by omega]
theorem el_oneW (h : EvP te σ H (VP.r W K (ws.map wd))) (hk : k < ws.length) (hi : Ev W K ti σ H (.int (k : Nat))) (hb : Ev W K tb σ H (.int ((k : Int) + 1))) : EvL W K (tSl (rSlL K) te (tPart ti) (tPart tb)) σ H (((ws.drop k).take 1).map wd) := by
  have := el_slL h (eo_some hi) (eo_some hb)
  rw [cutD_one _ _ (by rw [List.length_map]; exact hk), ← List.map_drop, ← List.map_take] at this
  exact this
theorem rep_map (ws : List (List Nat)) : ∀ n : Nat, (List.replicate n (ws.map wd)).flatten = (List.replicate n ws).flatten.map wd
  | 0 => rfl
  | n + 1 => by rw [List.replicate_succ, List.replicate_succ, List.flatten_cons, List.flatten_cons, List.map_append, rep_map ws n]
theorem el_repW {n : Int} (ha : EvL W K ta σ H (ws.map wd)) (hb : Ev W K tb σ H (.int n)) (h0 : 0 ≤ n) (h1 : n ≤ 1000) (hl : ws.length * n.toNat ≤ 10000000) : EvL W K (tOp rRep ta tb) σ H ((List.replicate n.toNat ws).flatten.map wd) := by
  have := el_rep ha hb h0 h1 (by rw [List.length_map]; exact hl)
  rw [rep_map] at this
  exact this
theorem rps_wd (K : PySem.W.Frag) (H : Hp) (ws : List (List Nat)) : Rps K H (ws.map wd) (wordsV ws) := rps_words K H ws
end
theorem tot_one (ws : List (List Nat)) (k : Nat) : tot (ws.take k) + (tot ((ws.drop k).take 1) + tot (ws.drop (k + 1))) = tot ws := by
  have h1 := tot_cut ws k
  have h2 := tot_cut (ws.drop k) 1
  rw [List.drop_drop] at h2
  omega
section
variable {P : Program} {w : World} {K : PySem.W.Frag} {mg : Str → Option Value} {base : Heap} {TT : List NTab}
theorem cd__law_tx_bent (T : Tx K mg) : Cd P w K mg base CX0 3 "_law_tx_bent" (SpJ K TT fun ds Pd => ∃ (l : List Nat) (m : Nat), ds = [.str (S l)] ∧ l.length ≤ m ∧ m ≤ 400000 ∧ Pd = isTx (2 * m + 40)) := by
  refine cd_of (k := 3 - 1) T.d__law_tx_bent sc__law_tx_bent (fun _ _ _ _ _ _ us hl => match us, hl with | [_, _], _ => rfl) (SpJ.len fun ds r h => by obtain ⟨_, _, e, _⟩ := h; rw [e]; rfl) ?_
  intro f cdv A outer s H vs Q E hr ⟨j, us, ds, Pd, e, g, hs, ⟨l, m, e1, hl, hm, e2⟩, kk⟩
  subst e e1 e2
  obtain ⟨v1, e, r1⟩ := rps1 hs
  subst e
  refine ⟨_, (pss_cons (ps_par (i := 2) (j := 3) rfl sc__law_tx_bent.nd rfl rfl (by decide) rfl rfl (pa_cons (pe_d (cd__law_take T) hr (by decide) (pa_cons (pv 0) (pa_cons pe_int pa_nil))) (pa_cons (pe_d (cd__law_take T) hr (by decide) (pa_cons (pv 0) (pa_cons (pe_op op_add (pe_callB (kLen K) (by rfl) T.n_len PySem.boot_len (pa_cons (pv 1) pa_nil)) pe_int) pa_nil))) pa_nil)) (by rfl))
    (pss_cons (ps_set (i := 4) sc__law_tx_bent.nd rfl (Or.inl rfl) (pe_lst (pa_cons pe_str (pa_cons pe_str (pa_cons pe_str (pa_cons pe_str (pa_cons pe_str (pa_cons pe_str (pa_cons pe_str (pa_cons pe_str (pa_cons pe_str (pa_cons pe_str (pa_cons pe_str (pa_cons pe_str (pa_cons pe_str (pa_cons pe_str pa_nil))))))))))))))))
    (pss_cons (ps_if (pt_cmpR op_lt (pv 2) pe_int (nomark _))
      (pss_one (ps_ret (pe_op op_add_str (pe_op op_add_str (pe_slice sl_str (pv 1) po_none (po_some (pv 3))) (pe_d (cd__law_one (TT := TT) T) hr (by decide) (pa_cons (pv 0) (pa_cons (pv 4) pa_nil)))) (pe_slice sl_str (pv 1) (po_some (pe_op op_add (pv 3) (pv 2))) po_none)))) pss_nil)
    (pss_cons (ps_if (pt_cmpR op_eq (pv 2) pe_int (nomark _))
      (pss_one (ps_ret (pe_slice sl_str (pv 1) po_none (po_some (pv 3))))) pss_nil)
    (pss_cons (ps_set (i := 5) sc__law_tx_bent.nd rfl (Or.inl rfl) (pe_ifExp (PW.pt (pw_or (pt_cmpR op_lt (pv 2) pe_int (nomark _)) (pw_or1 (pt_cmpR op_notIn_sign pe_str (pv 1) (by rfl))))) pe_str pe_str))
    (pss_cons (ps_set (i := 6) sc__law_tx_bent.nd rfl (Or.inl rfl) (pe_split (pv 1) (pv 5)))
    (pss_cons (ps_set (i := 7) sc__law_tx_bent.nd rfl (Or.inl rfl) (pe_d (cd__law_take T) hr (by decide) (pa_cons (pv 0) (pa_cons (pe_callB (kLen K) (by rfl) T.n_len PySem.boot_len (pa_cons (pv 6) pa_nil)) pa_nil))))
    (pss_cons (ps_set (i := 8) sc__law_tx_bent.nd rfl (Or.inl rfl) (pe_lst (pa_cons pe_str (pa_cons pe_str (pa_cons pe_str (pa_cons pe_str (pa_cons pe_str (pa_cons pe_str (pa_cons pe_str (pa_cons pe_str (pa_cons pe_str (pa_cons pe_str (pa_cons pe_str (pa_cons pe_str (pa_cons pe_str (pa_cons pe_str pa_nil))))))))))))))))
    (pss_cons (ps_if (pt_cmpR op_eq (pv 2) pe_int (nomark _))
      (pss_one (ps_ret (kJoin K (pv 5) (pe_op op_cat (pe_op op_cat (pe_slice sl_list (pv 6) po_none (po_some (pv 7))) (pe_lst (pa_cons (pe_d (cd__law_one (TT := TT) T) hr (by decide) (pa_cons (pv 0) (pa_cons (pv 8) pa_nil))) pa_nil))) (pe_slice sl_list (pv 6) (po_some (pe_op op_add (pv 7) pe_int)) po_none))))) pss_nil)
    (pss_cons (ps_if (PW.pt (pw_or (pt_cmpR op_lt (pv 2) pe_int (nomark _)) (pw_or1 (pt_cmpR op_eq (pv 2) pe_int (nomark _)))))
      (pss_one (ps_ret (kJoin K (pv 5) (pe_op op_cat (pe_op op_cat (pe_slice sl_list (pv 6) po_none (po_some (pv 7))) (pe_op op_rep (pe_slice sl_list (pv 6) (po_some (pv 7)) (po_some (pe_op op_add (pv 7) pe_int))) (pe_op op_mul pe_int (pe_callTy call_int1 (by rfl) T.n_int (by decide +kernel) (pa_cons (pe_cmpR op_eq (pv 2) pe_int (nomark _)) pa_nil))))) (pe_slice sl_list (pv 6) (po_some (pe_op op_add (pv 7) pe_int)) po_none))))) pss_nil)
    (pss_cons (ps_set (i := 9) sc__law_tx_bent.nd rfl (Or.inl rfl) (pe_d (cd__law_take T) hr (by decide) (pa_cons (pv 0) (pa_cons (pe_callB (kLen K) (by rfl) T.n_len PySem.boot_len (pa_cons (pv 6) pa_nil)) pa_nil))))
    (pss_cons (ps_asg (pe_tup (pa_cons (pe_ix (ixL K) (pv 6) (pv 9) (fun _ _ => rfl)) (pa_cons (pe_ix (ixL K) (pv 6) (pv 7) (fun _ _ => rfl)) pa_nil))) (pg_tup rfl (pgs_cons (pg_sub (pv 6) (pv 7) set_list) (pgs_cons (pg_sub (pv 6) (pv 9) set_list) pgs_nil))))
    (pss_one (ps_ret (kJoin K (pv 5) (pv 6)))))))))))))))), ?_⟩
  have ret : ∀ {te : TE} {σ : L2.St} {H' : Hp} {D : Ends} {a : Nat}, D.rt = Q → Wx (GW TT j) H H' → EvX (GW TT j) K te σ H' (isTx a) → a ≤ 2 * m + 40 → tRet te D σ H' := fun hD x h ha => retJ kk x (evx_imp h fun _ z => tx_mono z ha) hD
  have hS : (S l).length = l.length := S_len l
  refine par_then (W := GW TT j) (p := VP.ex _ K (inR 9)) (q := VP.ex _ K (inR ((((S l).length : Nat) : Int) + 1))) g (ev_take rfl ev_int (by decide) (by decide)) (ev_take rfl (ev_opI0 (ev_lenS (ev_var rfl r1) (by omega)) ev_int) (by omega) (by omega)) fun vf va H1 x1 ⟨_, ⟨form, ef, f0, f1⟩, rf⟩ ⟨_, ⟨at_, ea, a0, a1⟩, ra⟩ => ?_
  subst ef ea
  replace r1 := x1.rp r1
  refine set_then (W := GW TT j) (p := VP.l (GW TT j) K _) x1.2.1 (el_lst (ea_cons ev_str (ea_cons ev_str (ea_cons ev_str (ea_cons ev_str (ea_cons ev_str (ea_cons ev_str (ea_cons ev_str (ea_cons ev_str (ea_cons ev_str (ea_cons ev_str (ea_cons ev_str (ea_cons ev_str (ea_cons ev_str (ea_cons ev_str ea_nil)))))))))))))) (by simp)) fun v4 H2 x2 r4 => ?_
  replace r1 := x2.rp r1
  replace rf := x2.rp rf
  replace ra := x2.rp ra
  have x02 := x1.trans x2
  refine if_then (W := GW TT j) x2.2.1 (et_of (ev_opB0 (ev_var rfl rf) ev_int)) (fun hb H3 x3 => ?_) fun hb H3 x3 => ?_
  · replace r1 := x3.rp r1
    replace rf := x3.rp rf
    replace ra := x3.rp ra
    replace r4 := (VP.l (GW TT j) K _).st x3 r4
    exact ret rfl (x02.trans x3) (evx_addS (a := m + 5) (b := m) (evx_addS (a := m) (b := 5) (evx_cutS (ev_var rfl r1) hl (by omega) eo_none (eo_some (ev_var rfl ra))) (evx_imp (ev_one rfl (es_of_l (evp_var rfl r4)) (by simp) (by simp)) (lit_tx (by decide +kernel))) (by omega)) (evx_cutS (ev_var rfl r1) hl (by omega) (eo_some (ev_opI0 (ev_var rfl ra) (ev_var rfl rf))) eo_none) (by omega)) (by omega)
  replace r1 := x3.rp r1
  replace rf := x3.rp rf
  replace ra := x3.rp ra
  have x03 := x02.trans x3
  refine if_then (W := GW TT j) x3.2.1 (et_of (ev_eqI (ev_var rfl rf) ev_int)) (fun hb2 H4 x4 => ?_) fun hb2 H4 x4 => ?_
  · exact ret rfl (x03.trans x4) (evx_cutS (ev_var rfl (x4.rp r1)) hl (by omega) eo_none (eo_some (ev_var rfl (x4.rp ra)))) (by omega)
  replace r1 := x4.rp r1
  replace rf := x4.rp rf
  have x04 := x03.trans x4
  have hline : Str.ofString "\n" = sign 10 := l_line
  refine set_then (W := GW TT j) (p := VP.d (GW TT j) K _) x4.2.1 (ev_if (et_or (et_of (ev_opB0 (ev_var rfl rf) ev_int)) fun _ => et_of (ev_notInSign (c := 10) (ev_is ev_str (by rw [hline])) (ev_var rfl r1))) (fun _ => ev_str) fun _ => ev_str) fun v5 H5 x5 r5 => ?_
  obtain ⟨c, hc, r5⟩ : ∃ c, c < 256 ∧ Rp K H5 (.str (S [c])) v5 := by
    dsimp only at r5
    split at r5
    · exact ⟨32, by decide, by rw [← l_space]; exact r5⟩
    · exact ⟨10, by decide, by rw [← l_line]; exact r5⟩
  replace r1 := x5.rp r1
  replace rf := x5.rp rf
  have x05 := x04.trans x5
  refine split_run (W := GW TT j) hc rfl x5.2.1 (ev_var rfl r1) (ev_var rfl r5) (by omega) fun p H6 x6 hn hp => ?_
  have htot := tot_spl c l []
  have hwne := spl_ne c l []
  generalize TL.spl [c] 0 [] l = ws at hp htot hwne
  simp only [List.length_nil, Nat.zero_add] at htot
  have np : ¬ (GW TT j).M p := Wx.nM x5.2.1 hn
  have hlen := tot_len ws
  have hpos : 1 ≤ ws.length := by
    cases ws with
    | nil => exact (hwne rfl).elim
    | cons _ _ => simp
  replace rf := x6.rp rf
  replace r5 := x6.rp r5
  have x06 := x05.trans x6
  have pr : ∀ {H7 : Hp} {σ : L2.St}, Wx (GW TT j) H6 H7 → σ[6]? = some (some (.ref p)) → EvP (tVar 6) σ H7 (VP.r (GW TT j) K (ws.map wd)) := fun x e => evp_var e ⟨p, _, rfl, ⟨SqL.of (x.2.2 _ _ hp np), np⟩, rps_wd K _ ws⟩
  refine set_then (W := GW TT j) (p := VP.ex _ K (inR ((ws.map wd).length : Nat))) x6.2.1 (ev_take rfl (ev_len (es_of_r (pr (Wx.refl x6.2.1) rfl))) (by rw [List.length_map]; omega) (by rw [List.length_map]; omega)) fun v7 H7 x7 ⟨_, ⟨spot, es, s0, s1⟩, r7⟩ => ?_
  subst es
  obtain ⟨k, rfl⟩ : ∃ k : Nat, spot = (k : Nat) := ⟨spot.toNat, by omega⟩
  have hk : k < ws.length := by rw [List.length_map] at s1; omega
  replace rf := x7.rp rf
  replace r5 := x7.rp r5
  have x67 := x6.trans x7
  have x07 := x06.trans x7
  refine set_then (W := GW TT j) (p := VP.l (GW TT j) K _) x7.2.1 (el_lst (ea_cons ev_str (ea_cons ev_str (ea_cons ev_str (ea_cons ev_str (ea_cons ev_str (ea_cons ev_str (ea_cons ev_str (ea_cons ev_str (ea_cons ev_str (ea_cons ev_str (ea_cons ev_str (ea_cons ev_str (ea_cons ev_str (ea_cons ev_str ea_nil)))))))))))))) (by simp)) fun v8 H8 x8 r8 => ?_
  replace rf := x8.rp rf
  replace r5 := x8.rp r5
  replace r7 := x8.rp r7
  have x78 := x7.trans x8
  have x08 := x07.trans x8
  have t1 := tot_one ws k
  refine if_then (W := GW TT j) x8.2.1 (et_of (ev_eqI (ev_var rfl rf) ev_int)) (fun hb3 H9 x9 => ?_) fun hb3 H9 x9 => ?_
  · replace r8 := (VP.l (GW TT j) K _).st x9 r8
    replace r7 := x9.rp r7
    have q := pr (x78.trans x9) (σ := [some (.ref j), some v1, some vf, some va, some v4, some v5, some (.ref p), some v7, some v8, none]) rfl
    exact ret rfl (x08.trans x9) (ev_joinTL (m := tot (ws.take k) + (7 + 1) + tot (ws.drop (k + 1))) rfl (ev_var rfl (x9.rp r5)) (etl_cat (etl_cat (etl_of (el_takeW q (ev_var rfl r7)) (Nat.le_refl _)) (etl_one (m := 7) (evx_imp (ev_one rfl (es_of_l (evp_var rfl r8)) (by simp) (by simp)) (lit_tx (by decide +kernel)))) (by omega)) (etl_of (el_dropW (k := k + 1) q (ev_opI0 (ev_var rfl r7) ev_int) (by omega)) (Nat.le_refl _)) (by omega)) (by omega)) (by omega)
  replace rf := x9.rp rf
  replace r5 := x9.rp r5
  replace r7 := x9.rp r7
  have x79 := x78.trans x9
  have x09 := x08.trans x9
  refine if_then (W := GW TT j) x9.2.1 (et_or (et_of (ev_opB0 (ev_var rfl rf) ev_int)) fun _ => et_of (ev_eqI (ev_var rfl rf) ev_int)) (fun hb4 H10 x10 => ?_) fun hb4 H10 x10 => ?_
  · replace rf := x10.rp rf
    replace r7 := x10.rp r7
    have q := pr (x79.trans x10) (σ := [some (.ref j), some v1, some vf, some va, some v4, some v5, some (.ref p), some v7, some v8, none]) rfl
    have hn2 : ∀ b : Bool, 0 ≤ 2 * (if b = true then (1 : Int) else 0) ∧ 2 * (if b = true then (1 : Int) else 0) ≤ 2 := fun b => by cases b <;> decide
    obtain ⟨n0, n1⟩ := hn2 (decide (form = 4))
    have hone : ((ws.drop k).take 1).length ≤ 1 := by rw [List.length_take]; omega
    have hrep := tot_rep ((ws.drop k).take 1) (2 * (if decide (form = 4) = true then (1 : Int) else 0)).toNat
    have hrl : tot (List.replicate (2 * (if decide (form = 4) = true then (1 : Int) else 0)).toNat ((ws.drop k).take 1)).flatten ≤ 2 * tot ((ws.drop k).take 1) := by
      rw [hrep]
      exact Nat.mul_le_mul_right _ (by omega)
    have hml : ((ws.drop k).take 1).length * (2 * (if decide (form = 4) = true then (1 : Int) else 0)).toNat ≤ 10000000 := by
      refine Nat.le_trans (Nat.mul_le_mul hone (show (2 * (if decide (form = 4) = true then (1 : Int) else 0)).toNat ≤ 2 by omega)) (by decide)
    exact ret rfl (x09.trans x10) (ev_joinTL (m := tot (ws.take k) + 2 * tot ((ws.drop k).take 1) + tot (ws.drop (k + 1))) rfl (ev_var rfl (x10.rp r5)) (etl_cat (etl_cat (etl_of (el_takeW q (ev_var rfl r7)) (Nat.le_refl _)) (etl_of (el_repW (el_oneW q hk (ev_var rfl r7) (ev_opI0 (ev_var rfl r7) ev_int)) (ev_opI ev_int (ev_int1b (ev_eqI (ev_var rfl rf) ev_int)) (.inl ⟨by decide, by decide⟩)) n0 (by omega) hml) hrl) (by omega)) (etl_of (el_dropW (k := k + 1) q (ev_opI0 (ev_var rfl r7) ev_int) (by omega)) (Nat.le_refl _)) (by omega)) (by omega)) (by omega)
  replace r5 := x10.rp r5
  replace r7 := x10.rp r7
  have x710 := x79.trans x10
  have x010 := x09.trans x10
  refine set_then (W := GW TT j) (p := VP.ex _ K (inR ((ws.map wd).length : Nat))) x10.2.1 (ev_take rfl (ev_len (es_of_r (pr x710 rfl))) (by rw [List.length_map]; omega) (by rw [List.length_map]; omega)) fun v9 H11 x11 ⟨_, ⟨oth, eo, o0, o1⟩, r9⟩ => ?_
  subst eo
  obtain ⟨k2, rfl⟩ : ∃ k : Nat, oth = (k : Nat) := ⟨oth.toNat, by omega⟩
  have hk2 : k2 < ws.length := by rw [List.length_map] at o1; omega
  replace r5 := x11.rp r5
  replace r7 := x11.rp r7
  have x711 := x710.trans x11
  have x011 := x010.trans x11
  have q := pr x711 (σ := [some (.ref j), some v1, some vf, some va, some v4, some v5, some (.ref p), some v7, some v8, some v9]) rfl
  have ga : ws[k]? = some ws[k] := List.getElem?_eq_getElem hk
  have gb : ws[k2]? = some ws[k2] := List.getElem?_eq_getElem hk2
  refine asg_then (W := GW TT j) (p := VP.d (GW TT j) K (.tuple [wd ws[k2], wd ws[k]])) x11.2.1 (ev_tup (ea_cons (ev_ixL (j := k2) (es_of_r q) (ev_var rfl r9) (ixN_nat (by rw [List.length_map]; exact hk2)) (by rw [List.getElem?_map, gb]; rfl)) (ea_cons (ev_ixL (j := k) (es_of_r q) (ev_var rfl r7) (ixN_nat (by rw [List.length_map]; exact hk)) (by rw [List.getElem?_map, ga]; rfl)) ea_nil)) (by simp)) fun vt H12 x12 rt => ?_
  replace r5 := x12.rp r5
  replace r7 := x12.rp r7
  replace r9 := x12.rp r9
  have e7 := rp_int.mp r7
  have e9 := rp_int.mp r9
  subst e7 e9
  obtain ⟨tt, xs, et, hst, hrt⟩ := rp_tup.mp rt
  obtain ⟨y1, y2, exs, q1, q2⟩ := rps2 hrt
  rw [rp_str.mp q1, rp_str.mp q2] at exs
  subst exs et
  have x712 := x711.trans x12
  have x012 := x011.trans x12
  have hp12 := x712.2.2 _ _ hp np
  have hfresh : H p = none := x05.fresh hn
  have hwl : (wordsV ws).length = ws.length := List.length_map ..
  refine ⟨tt, _, rfl, hst, rfl, _, _, rfl, ⟨_, rfl, _, rfl, p, wordsV ws, (k : Nat), k, rfl, rfl, hp12, ixN_nat (by rw [hwl]; exact hk), _, _, rfl, ⟨_, rfl, _, rfl, p, (wordsV ws).set k (.str (S ws[k2])), (k2 : Nat), k2, rfl, rfl, upd_same, ixN_nat (by rw [List.length_set, hwl]; exact hk2), rfl, ?_⟩⟩⟩
  have hset : ((wordsV ws).set k (.str (S ws[k2]))).set k2 (.str (S ws[k])) = wordsV ((ws.set k ws[k2]).set k2 ws[k]) := by
    unfold wordsV
    rw [List.map_set, List.map_set]
  rw [hset]
  have y1 := Wx.mut x012 (o' := .lst ((wordsV ws).set k (.str (S ws[k2])))) hfresh hp12 rfl
  have y2 := Wx.mut y1 (o' := .lst (wordsV ((ws.set k ws[k2]).set k2 ws[k]))) hfresh upd_same rfl
  have kt1 : KeepT H12 (upd H12 p (.lst ((wordsV ws).set k (.str (S ws[k2]))))) := KeepT.mut hp12 rfl
  have kt2 : KeepT _ (upd (upd H12 p (.lst ((wordsV ws).set k (.str (S ws[k2]))))) p (.lst (wordsV ((ws.set k ws[k2]).set k2 ws[k])))) := KeepT.mut (upd_same (o := .lst ((wordsV ws).set k (.str (S ws[k2]))))) rfl
  have r5' := Rp.mono kt2 _ _ (Rp.mono kt1 _ _ r5)
  refine ret rfl y2 (ev_joinTL (m := tot ws) rfl (ev_var rfl r5') (evp_var (p := VP.tl (GW TT j) K (tot ws)) rfl ⟨_, Nat.le_of_eq (tot_swap ga gb), p, _, rfl, upd_same, np, rps_wd K _ _⟩) (by omega)) (by omega)
end
end Fd
-- J8
namespace Fd
open PySem PySem.Spec PyProof.Rows L2 LamX NdefX
section
variable {W : Wd} {K : PySem.W.Frag} {σ : L2.St} {H H0 : Hp} {ta tb te ti : TE} {tr : TA} {m k : Nat} {ws : List (List Nat)} {ds es : List PyData} {D : Ends} {t1 u : TS} {xs : List V}
/-- a test of a draw against a number -/
theorem if_draw {n mm : Int} (jH : W.J H) (ha : EvX W K ta σ H (inR mm)) (h1 : ∀ H', Wx W H H' → t1 { D with nx := u D } σ H') (h2 : ∀ H', Wx W H H' → u D σ H') : tSeq (tIfS (tTest (tOp rEq ta (tC (.int n)))) t1 tNext) u D σ H :=
  ha.run jH fun v H1 x1 ⟨d, ⟨i, e, _⟩, r⟩ => by
    subst e
    obtain rfl := rp_int.mp r
    refine ⟨rfl, _, rfl, ?_⟩
    generalize decide (V.int i = V.int n) = b
    cases b
    · exact h2 H1 x1
    · exact h1 H1 x1
/-- a list display: the list is new -/
theorem lst_run (jH : W.J H) (h : EvA W K tr σ H ds) (hl : ds.length ≤ 10000000) {Q : VK} (k : ∀ p H2 xs, Wx W H H2 → H p = none → H2 p = some (.lst xs) → Rps K H2 ds xs → Q (.ref p) H2) : tLst tr σ H Q :=
  h H (Wx.refl jH) _ fun vs H2 x2 hs => ⟨by rw [hs.len]; exact sz_of hl, fun p hp => k p _ vs (x2.trans (Wx.new x2.2.1 hp)) (x2.fresh hp) upd_same ((Wx.new x2.2.1 hp).rps hs)⟩
theorem lst_then {i : Nat} (jH : W.J H) (h : EvA W K tr σ H ds) (hl : ds.length ≤ 10000000) (k : ∀ p H2 xs, Wx W H H2 → H p = none → H2 p = some (.lst xs) → Rps K H2 ds xs → u D (σ.set i (some (.ref p))) H2) : tSeq (tAsg (tLst tr) (gName i)) u D σ H :=
  lst_run (Q := fun v H' => gName i v σ H' fun σ' H2 => u D σ' H2) jH h hl fun p H2 xs x hn hp hs => k p H2 xs x hn hp hs
theorem ext_then {i : Nat} {p : Addr} (e : σ[i]? = some (some (.ref p))) (x : Wx W H0 H) (hn : H0 p = none) (hp : H p = some (.lst xs)) (hr : Rps K H ds xs) (h : EvA W K tr σ H es) (hl : ds.length + es.length ≤ 1000000)
    (k : ∀ H' xs', Wx W H0 H' → (∀ b o, b ≠ p → ¬ W.M b → H b = some o → H' b = some o) → H' p = some (.lst xs') → Rps K H' (ds ++ es) xs' → u D σ H') : tSeq (tDrop (tBM K "list" rExtend (tVar i) (tCons (tLst tr) tNil))) u D σ H := by
  have np : ¬ W.M p := Wx.nM x.1 hn
  refine ⟨.ref p, e, .inl ⟨rfl, _, SqL.of hp⟩, ?_⟩
  refine lst_run (K := K) x.2.1 h (by omega) fun q H2 ys x2 hq0 hq hs => ?_
  have hp2 := x2.2.2 _ _ hp np
  have hr2 := x2.rps hr
  refine ⟨p, q, xs, ys, rfl, rfl, hp2, hq, ?_, ?_⟩
  · rw [hr.len, hs.len]
    exact sz_of (by omega)
  · have kt : KeepT H2 (upd H2 p (.lst (xs ++ ys))) := KeepT.mut hp2 rfl
    exact k _ _ (Wx.mut (x.trans x2) hn hp2 rfl) (fun b o hb hm hh => by rw [upd_ne hb]; exact x2.2.2 _ _ hh hm) upd_same ((Rps.mono kt _ _ hr2).app (Rps.mono kt _ _ hs))
end
section
variable {P : Program} {w : World} {K : PySem.W.Frag} {mg : Str → Option Value} {base : Heap} {TT : List NTab}
theorem cd__law_text_bent (T : Tx K mg) : Cd P w K mg base CX0 4 "_law_text_bent" (SpJ K TT fun ds Pd => ∃ (l : List Nat) (m : Nat), ds = [.str (S l)] ∧ l.length ≤ m ∧ m ≤ 400000 ∧ Pd = isTx (2 * m + 40)) := by
  refine cd_of (k := 4 - 1) T.d__law_text_bent sc__law_text_bent (fun _ _ _ _ _ _ us hl => match us, hl with | [_, _], _ => rfl) (SpJ.len fun ds r h => by obtain ⟨_, _, e, _⟩ := h; rw [e]; rfl) ?_
  intro f cdv A outer s H vs Q E hr ⟨j, us, ds, Pd, e, g, hs, ⟨l, m, e1, hl, hm, e2⟩, kk⟩
  subst e e1 e2
  obtain ⟨v1, e, r1⟩ := rps1 hs
  subst e
  refine ⟨_, (pss_cons (ps_if (pt_cmpR op_eq (pe_d (cd__law_take T) hr (by decide) (pa_cons (pv 0) (pa_cons pe_int pa_nil))) pe_int (nomark _))
      (pss_one (ps_ret (pe_d (cd__law_tx_bent (TT := TT) T) hr (by decide) (pa_cons (pv 0) (pa_cons (pv 1) pa_nil))))) pss_nil)
    (pss_cons (ps_set (i := 2) sc__law_text_bent.nd rfl (Or.inl rfl) (pe_split (pv 1) pe_str))
    (pss_cons (ps_par (i := 3) (j := 4) rfl sc__law_text_bent.nd rfl rfl (by decide) rfl rfl (pa_cons (pe_d (cd__law_take T) hr (by decide) (pa_cons (pv 0) (pa_cons (pe_callB (kLen K) (by rfl) T.n_len PySem.boot_len (pa_cons (pv 2) pa_nil)) pa_nil))) (pa_cons (pe_d (cd__law_take T) hr (by decide) (pa_cons (pv 0) (pa_cons pe_int pa_nil))) pa_nil)) (by rfl))
    (pss_cons (ps_set (i := 5) sc__law_text_bent.nd rfl (Or.inl rfl) (pe_lst (pa_cons pe_str (pa_cons pe_str (pa_cons pe_str (pa_cons pe_str (pa_cons pe_str (pa_cons pe_str (pa_cons pe_str (pa_cons pe_str (pa_cons pe_str (pa_cons pe_str (pa_cons pe_str (pa_cons pe_str (pa_cons pe_str (pa_cons pe_str pa_nil))))))))))))))))
    (pss_cons (ps_expr (pe_bm PySem.F.plainAttrs_list PySem.F.slot_list_extend PySem.F.type_list_extend mt_extend (pv 5) (pa_cons (pe_lst (pa_cons pe_str (pa_cons pe_str pa_nil))) pa_nil)))
    (pss_cons (ps_expr (pe_bm PySem.F.plainAttrs_list PySem.F.slot_list_extend PySem.F.type_list_extend mt_extend (pv 5) (pa_cons (pe_lst (pa_cons pe_str (pa_cons pe_str (pa_cons pe_str (pa_cons pe_str (pa_cons pe_str (pa_cons pe_str (pa_cons pe_str (pa_cons pe_str pa_nil))))))))) pa_nil)))
    (pss_cons (ps_expr (pe_bm PySem.F.plainAttrs_list PySem.F.slot_list_extend PySem.F.type_list_extend mt_extend (pv 5) (pa_cons (pe_lst (pa_cons pe_str (pa_cons pe_str (pa_cons pe_str pa_nil)))) pa_nil)))
    (pss_cons (ps_set (i := 6) sc__law_text_bent.nd rfl (Or.inl rfl) (pe_d (cd__law_one (TT := TT) T) hr (by decide) (pa_cons (pv 0) (pa_cons (pe_op op_cat (pv 5) (pe_lst (pa_cons pe_str (pa_cons pe_str (pa_cons pe_str (pa_cons pe_str pa_nil)))))) pa_nil))))
    (pss_one (ps_ret (kJoin K pe_str (pe_op op_cat (pe_op op_cat (pe_slice sl_list (pv 2) po_none (po_some (pv 3))) (pe_op op_rep (pe_lst (pa_cons (pv 6) pa_nil)) (pe_callTy call_int1 (by rfl) T.n_int (by decide +kernel) (pa_cons (pe_cmpR op_lt (pv 4) pe_int (nomark _)) pa_nil)))) (pe_slice sl_list (pv 2) (po_some (pe_op op_add (pv 3) (pe_callTy call_int1 (by rfl) T.n_int (by decide +kernel) (pa_cons (pe_cmpR op_ne (pv 4) pe_int (nomark _)) pa_nil)))) po_none))))))))))))), ?_⟩
  have ret : ∀ {te : TE} {σ : L2.St} {H' : Hp} {D : Ends} {a : Nat}, D.rt = Q → Wx (GW TT j) H H' → EvX (GW TT j) K te σ H' (isTx a) → a ≤ 2 * m + 40 → tRet te D σ H' := fun hD x h ha => retJ kk x (evx_imp h fun _ z => tx_mono z ha) hD
  refine if_draw (K := K) (W := GW TT j) g (ev_take rfl ev_int (by decide) (by decide)) (fun H1 x1 => ?_) fun H1 x1 => ?_
  · exact ret rfl x1 (ev_callJ rfl (ea_cons (ev_var rfl (x1.rp r1)) ea_nil) ⟨l, m, rfl, hl, hm, rfl⟩) (Nat.le_refl _)
  replace r1 := x1.rp r1
  refine split_run (W := GW TT j) (c := 32) (by decide) l_space x1.2.1 (ev_var rfl r1) ev_str (by omega) fun p H2 x2 hn hp => ?_
  have htot := tot_spl 32 l []
  have hwne := spl_ne 32 l []
  generalize TL.spl [32] 0 [] l = ws at hp htot hwne
  simp only [List.length_nil, Nat.zero_add] at htot
  have np : ¬ (GW TT j).M p := Wx.nM x1.2.1 hn
  have hlen := tot_len ws
  have hpos : 1 ≤ ws.length := by
    cases ws with
    | nil => exact (hwne rfl).elim
    | cons _ _ => simp
  have x02 := x1.trans x2
  have pr : ∀ {H7 : Hp} {σ : L2.St}, H7 p = some (.lst (wordsV ws)) → σ[2]? = some (some (.ref p)) → EvP (tVar 2) σ H7 (VP.r (GW TT j) K (ws.map wd)) := fun h e => evp_var e ⟨p, _, rfl, ⟨SqL.of h, np⟩, rps_wd K _ ws⟩
  refine par_then (W := GW TT j) (p := VP.ex _ K (inR ((ws.map wd).length : Nat))) (q := VP.ex _ K (inR 3)) x2.2.1 (ev_take rfl (ev_len (es_of_r (pr hp rfl))) (by rw [List.length_map]; omega) (by rw [List.length_map]; omega)) (ev_take rfl ev_int (by decide) (by decide)) fun va vf H3 x3 ⟨_, ⟨at_, ea, a0, a1⟩, ra⟩ ⟨_, ⟨form, ef, f0, f1⟩, rf⟩ => ?_
  subst ea ef
  obtain rfl := rp_int.mp ra
  obtain rfl := rp_int.mp rf
  obtain ⟨k, rfl⟩ : ∃ k : Nat, at_ = (k : Nat) := ⟨at_.toNat, by omega⟩
  have hk : k < ws.length := by rw [List.length_map] at a1; omega
  have hp3 := x3.2.2 _ _ hp np
  have x03 := x02.trans x3
  refine lst_then (K := K) (W := GW TT j) x3.2.1 (ea_cons ev_str (ea_cons ev_str (ea_cons ev_str (ea_cons ev_str (ea_cons ev_str (ea_cons ev_str (ea_cons ev_str (ea_cons ev_str (ea_cons ev_str (ea_cons ev_str (ea_cons ev_str (ea_cons ev_str (ea_cons ev_str (ea_cons ev_str ea_nil)))))))))))))) (by simp) fun q H4 ys x4 hq0 hq hs4 => ?_
  have hp4 := x4.2.2 _ _ hp3 np
  have x04 := x03.trans x4
  have hqn : H q = none := x03.fresh hq0
  have hpq : p ≠ q := fun z => by
    rw [z, hq0] at hp3
    cases hp3
  have nq : ¬ (GW TT j).M q := Wx.nM g hqn
  refine ext_then (K := K) (W := GW TT j) (H0 := H) rfl x04 hqn hq hs4 (ea_cons ev_str (ea_cons ev_str ea_nil)) (by simp) fun H5 xs5 x05 k5 hq5 hs5 => ?_
  have hp5 := k5 _ _ hpq np hp4
  refine ext_then (K := K) (W := GW TT j) (H0 := H) rfl x05 hqn hq5 hs5 (ea_cons ev_str (ea_cons ev_str (ea_cons ev_str (ea_cons ev_str (ea_cons ev_str (ea_cons ev_str (ea_cons ev_str (ea_cons ev_str ea_nil)))))))) (by simp) fun H6 xs6 x06 k6 hq6 hs6 => ?_
  have hp6 := k6 _ _ hpq np hp5
  refine ext_then (K := K) (W := GW TT j) (H0 := H) rfl x06 hqn hq6 hs6 (ea_cons ev_str (ea_cons ev_str (ea_cons ev_str ea_nil))) (by simp) fun H7 xs7 x07 k7 hq7 hs7 => ?_
  have hp7 := k7 _ _ hpq np hp6
  refine set_then (W := GW TT j) (p := VP.ex _ K (isTx 21)) x07.2.1 (evx_imp (ev_one rfl (es_of_l (el_cat (evp_var (p := VP.l (GW TT j) K _) rfl ⟨q, _, rfl, hq7, nq, hs7⟩) (el_lst (ea_cons ev_str (ea_cons ev_str (ea_cons ev_str (ea_cons ev_str ea_nil)))) (by simp)) (by simp))) (by simp) (by simp)) (lit_tx (by decide +kernel))) fun vo H8 x8 ⟨_, ⟨lo, eo, hlo⟩, ro⟩ => ?_
  subst eo
  have hp8 := x8.2.2 _ _ hp7 np
  have rI : ∀ {i : Int} {H : Hp}, Rp K H (.int i) (.int i) := rp_int.mpr rfl
  have qr := pr hp8 (σ := [some (.ref j), some v1, some (.ref p), some (.int (k : Nat)), some (.int form), some (.ref q), some vo]) rfl
  have hb01 : ∀ b : Bool, 0 ≤ (if b = true then (1 : Int) else 0) ∧ (if b = true then (1 : Int) else 0) ≤ 1 := fun b => by cases b <;> decide
  obtain ⟨n0, n1⟩ := hb01 (decide (form < 2))
  obtain ⟨c0, c1⟩ := hb01 (!decide (form = 1))
  have t1 := tot_one ws k
  have t2 := tot_cut ws k
  have hone : tot [lo] = lo.length + 1 := by rw [tot_cons, tot_nil]
  have hrl : tot (List.replicate (if decide (form < 2) = true then (1 : Int) else 0).toNat [lo]).flatten ≤ 22 := by
    rw [tot_rep, hone]
    exact Nat.le_trans (Nat.mul_le_mul_right _ (show (if decide (form < 2) = true then (1 : Int) else 0).toNat ≤ 1 by omega)) (by omega)
  obtain ⟨k2, hk2⟩ : ∃ k2 : Nat, (k : Int) + (if (!decide (form = 1)) = true then (1 : Int) else 0) = (k2 : Nat) := ⟨((k : Int) + (if (!decide (form = 1)) = true then (1 : Int) else 0)).toNat, by omega⟩
  have hd2 : tot (ws.take k) + tot (ws.drop k2) ≤ tot ws := by
    rcases (show k2 = k ∨ k2 = k + 1 by omega) with z | z
    · rw [z]
      omega
    · rw [z]
      omega
  refine ret rfl (x07.trans x8) (ev_joinTL (m := tot (ws.take k) + 22 + tot (ws.drop k2)) l_space ev_str (etl_cat (etl_cat (etl_of (el_takeW qr (ev_var rfl rI)) (Nat.le_refl _)) (etl_of (el_repW (ws := [lo]) (el_lst (ea_cons (ev_var rfl ro) ea_nil) (by simp)) (ev_int1b (ev_opB0 (ev_var rfl rI) ev_int)) n0 (by omega) (by simp only [List.length_cons, List.length_nil]; omega)) hrl) (by omega)) (etl_of (el_dropW (k := k2) qr (ev_opI0 (ev_var rfl rI) (ev_int1b (ev_neI (ev_var rfl rI) ev_int))) hk2) (Nat.le_refl _)) (by omega)) (by omega)) (by omega)
end
end Fd
-- Zl
/-! list(zip(a, b)) of two lists. -/
namespace Fd
open PySem PySem.Spec PyProof.Rows L2
theorem nolen_zip : typeLookup (.type "zip") "__len__" = pure none := by rw [typeLookup_type, builtinLookup_eq_fast]; kernel_rfl
theorem nohint_zip : typeLookup (.type "zip") "__length_hint__" = pure none := by rw [typeLookup_type, builtinLookup_eq_fast]; kernel_rfl
/-- the pairs made so far -/
structure MadeZ (xs ys : Array Value) (lo : Addr) (h : Heap) (as : List Addr) : Prop where
  rise : as.Pairwise (· < ·)
  above : ∀ a ∈ as, lo < a
  pairs : ∀ (j : Nat) (a : Addr), as[j]? = some a → ∃ x y, xs[j]? = some x ∧ ys[j]? = some y ∧ IsPair h a x y
theorem MadeZ.there {xs ys : Array Value} {lo : Addr} {h : Heap} {as : List Addr} (g : MadeZ xs ys lo h as) {a : Addr} (ha : a ∈ as) : a < h.objs.size := by
  obtain ⟨j, hj⟩ := List.mem_iff_getElem?.mp ha
  obtain ⟨_, _, _, _, e⟩ := g.pairs j a hj
  exact Heap.lt_size e
/-- the zip object behind i turns, while a list at S is filled -/
def ZSt (z TI TO i1 i2 l1 l2 S : Addr) (xs ys : Array Value) (i : Nat) (h : Heap) : Prop := IsPair h TI (.ref i1) (.ref i2) ∧ h.IsListIter i1 l1 i ∧ h.IsListIter i2 l2 i ∧ h.IsList l1 xs ∧ h.IsList l2 ys ∧
      ((IsZip h z TI TO .none ∧ ∃ a b, IsPair h TO a b) ∨ ∃ T f oT, IsZipHeld h z TI TO T f ∧ h.get? T = some oT ∧ T ≠ z ∧ T ≠ i1 ∧ T ≠ i2 ∧ T ≠ S)
section
variable {prog : Program} {w : World} {A : Around} {E : Value → Shared → Prop} {s : Shared} {xs ys : Array Value} {S z TI TO i1 i2 l1 l2 : Addr}
theorem ZSt.keep {i : Nat} {h₁ h₂ : Heap} (hfp : ∀ b ∈ [z, TI, TO, i1, i2, l1, l2], b < S) (st : ZSt z TI TO i1 i2 l1 l2 S xs ys i h₁) (hk : ∀ b o, b ≠ S → h₁.get? b = some o → h₂.get? b = some o) : ZSt z TI TO i1 i2 l1 l2 S xs ys i h₂ := by
  obtain ⟨hTI, h1, h2, hl1, hl2, hz⟩ := st
  have ne : ∀ b ∈ [z, TI, TO, i1, i2, l1, l2], b ≠ S := fun b hb => Nat.ne_of_lt (hfp b hb)
  refine ⟨hk _ _ (ne _ (by simp)) hTI, h1.at fun o e => hk _ o (ne _ (by simp)) e, h2.at fun o e => hk _ o (ne _ (by simp)) e, hl1.at fun o e => hk _ o (ne _ (by simp)) e, hl2.at fun o e => hk _ o (ne _ (by simp)) e, ?_⟩
  rcases hz with ⟨hz, a, b, hTO⟩ | ⟨T, f, oT, hz, hT, r1, r2, r3, r4⟩
  · exact .inl ⟨hk _ _ (ne _ (by simp)) hz, a, b, hk _ _ (ne _ (by simp)) hTO⟩
  · exact .inr ⟨T, f, oT, hk _ _ (ne _ (by simp)) hz, hk _ _ r4 hT, r1, r2, r3, r4⟩
theorem nxtZ {i : Nat} {Q₁ : Option Value → Shared → Prop} (D : ZipApart z TI TO i1 i2 l1 l2) (hix : i < xs.size) (hiy : i < ys.size) (st : ZSt z TI TO i1 i2 l1 l2 S xs ys i s.heap) (hds : S < s.heap.objs.size)
    (hQ : ∀ h', ZSt z TI TO i1 i2 l1 l2 S xs ys (i + 1) h' → IsPair h' s.heap.objs.size xs[i] ys[i] → h'.objs.size = s.heap.objs.size + 1 → (∀ b o, b ≠ z → b ≠ TO → b ≠ i1 → b ≠ i2 → s.heap.get? b = some o → h'.get? b = some o) → Q₁ (some (.ref s.heap.objs.size)) { s with heap := h' }) :
    wpAny (model prog w) A (pyNext (.ref z)) Q₁ E s := by
  obtain ⟨hTI, h1, h2, hl1, hl2, hz⟩ := st
  have ex := Array.getElem?_eq_getElem hix
  have ey := Array.getElem?_eq_getElem hiy
  have lt : ∀ {c o}, s.heap.get? c = some o → s.heap.objs.size ≠ c := fun e => Nat.ne_of_gt (Heap.lt_size e)
  have n1 : s.heap.objs.size ≠ i1 := let ⟨_, e, _⟩ := h1; lt e
  have n2 : s.heap.objs.size ≠ i2 := let ⟨_, e, _⟩ := h2; lt e
  rcases hz with ⟨hz, a, b, hTO⟩ | ⟨T, f, oT, hz, hT, r1, r2, r3, r4⟩
  · refine wpAny_pyNext_zip_item D hz hTI hTO h1 h2 hl1 hl2 ex ey fun h' a1 a2 a3 a4 a5 a6 hk => ?_
    exact hQ h' ⟨hk _ _ D.TIz D.TITO D.TIi1 D.TIi2 hTI, a3, a4, hl1.at fun o e => hk _ o D.l1z D.l1TO D.l1i1 D.l1i2 e, hl2.at fun o e => hk _ o D.l2z D.l2TO D.l2i1 D.l2i2 e,
        .inr ⟨s.heap.objs.size, false, _, a1, a5, lt hz, n1, n2, Nat.ne_of_gt hds⟩⟩ a5 a6 hk
  · refine wpAny_pyNext_zip_item_held D hz hT hTI h1 h2 hl1 hl2 ex ey fun h' a1 a3 a4 a5 a6 hk => ?_
    exact hQ h' ⟨hk _ _ D.TIz D.TIi1 D.TIi2 hTI, a3, a4, hl1.at fun o e => hk _ o D.l1z D.l1i1 D.l1i2 e, hl2.at fun o e => hk _ o D.l2z D.l2i1 D.l2i2 e,
        .inr ⟨T, true, oT, a1, hk _ _ r1 r2 r3 hT, r1, r2, r3, r4⟩⟩ a5 a6 fun b o b1 _ b3 b4 e => hk b o b1 b3 b4 e
theorem finZ {i : Nat} {Q₁ : Option Value → Shared → Prop} (hh : A.handled = none) (D : ZipApart z TI TO i1 i2 l1 l2) (st : ZSt z TI TO i1 i2 l1 l2 S xs ys i s.heap) (hend : xs[i]? = none ∨ ys[i]? = none)
    (hQ : ∀ h', (∀ b o, b ≠ z → b ≠ TO → b ≠ i1 → b ≠ i2 → s.heap.get? b = some o → h'.get? b = some o) → Q₁ none { s with heap := h' }) : wpAny (model prog w) A (pyNext (.ref z)) Q₁ E s := by
  obtain ⟨hTI, h1, h2, hl1, hl2, hz⟩ := st
  rcases hz with ⟨hz, a, b, hTO⟩ | ⟨T, f, oT, hz, hT, r1, r2, r3, r4⟩
  · exact wpAny_pyNext_zip_end hh D hz hTI hTO h1 h2 hl1 hl2 hend fun h' hk => hQ h' fun c o c1 c2 c3 c4 e => hk c o c1 c2 c3 c4 e
  · exact wpAny_pyNext_zip_end_held hh D hz hT hTI h1 h2 hl1 hl2 hend fun h' hk => hQ h' fun c o c1 c2 c3 c4 e => hk c o c1 c3 c4 e
end
section
variable {prog : Program} {w : World} {A : Around} {s : Shared} {R : Result → Shared → Prop} {xs ys : Array Value} {S z TI TO i1 i2 l1 l2 : Addr}
theorem loopZ (D : ZipApart z TI TO i1 i2 l1 l2) (hh : A.handled = none) (hfp : ∀ b ∈ [z, TI, TO, i1, i2, l1, l2], b < S) (hn : xs.size ≤ sizeLine) (hxy : xs.size = ys.size) (res : Value) {h₁ : Heap}
    (hR : ∀ h' tk acc c as, (∀ b o, b ≠ S → b ≠ z → b ≠ TO → b ≠ i1 → b ≠ i2 → h₁.get? b = some o → h'.get? b = some o) → h'.get? S = some { cls := .type "list", dict := none, data := .seq acc c, slots := #[] } → as.length = xs.size → MadeZ xs ys S h' as →
      acc.toList = as.map Value.ref → R (.ok (.ret res)) { s with heap := h', toks := tk }) :
    ∀ (k i : Nat) (h : Heap) (tk c : Nat) (acc : Array Value) (as : List Addr), xs.size - i = k → i ≤ xs.size → ZSt z TI TO i1 i2 l1 l2 S xs ys i h → (∀ b o, b ≠ S → b ≠ z → b ≠ TO → b ≠ i1 → b ≠ i2 → h₁.get? b = some o → h.get? b = some o) →
      h.get? S = some { cls := .type "list", dict := none, data := .seq acc c, slots := #[] } → acc.toList = as.map Value.ref → as.length = i → MadeZ xs ys S h as →
      codeAny (model prog w) A (.builtin "list.extend.loop" ⟨[.ref S, .ref z, res], []⟩) R { s with heap := h, toks := tk } := by
  have nz : z ≠ S := Nat.ne_of_lt (hfp z (by simp))
  have nTO : TO ≠ S := Nat.ne_of_lt (hfp TO (by simp))
  have ni1 : i1 ≠ S := Nat.ne_of_lt (hfp i1 (by simp))
  have ni2 : i2 ≠ S := Nat.ne_of_lt (hfp i2 (by simp))
  have lz := hfp z (by simp)
  have lTO := hfp TO (by simp)
  have li1 := hfp i1 (by simp)
  have li2 := hfp i2 (by simp)
  intro k
  induction k with
  | zero =>
    intro i h tk c acc as hk hi hst hkeep hS hacc hal hG
    refine codeAny_builtin PySem.F.entry_extend_loop ?_
    rw [Around.under_plainId PySem.F.plain_extend_loop _]
    show wpAny _ A.in1 (pyNext (.ref z) >>= _) _ _ _
    refine wpAny_bind (finZ (s := { s with heap := h, toks := tk }) (A := A.in1) hh D hst (.inl (Array.getElem?_eq_none (by omega))) fun h' he => ?_)
    refine wpAny_pure (hR h' tk acc c as (fun b o h1 h2 h3 h4 h5 e => he b o h2 h3 h4 h5 (hkeep b o h1 h2 h3 h4 h5 e)) (he S _ (Ne.symm nz) (Ne.symm nTO) (Ne.symm ni1) (Ne.symm ni2) hS) (by omega) ⟨hG.rise, hG.above, fun j a hj => ?_⟩ hacc)
    obtain ⟨x, y, e1, e2, e3⟩ := hG.pairs j a hj
    have hb := hG.above a (List.mem_of_getElem? hj)
    exact ⟨x, y, e1, e2, he a _ (Nat.ne_of_gt (Nat.lt_trans lz hb)) (Nat.ne_of_gt (Nat.lt_trans lTO hb)) (Nat.ne_of_gt (Nat.lt_trans li1 hb)) (Nat.ne_of_gt (Nat.lt_trans li2 hb)) e3⟩
  | succ k ih =>
    intro i h tk c acc as hk hi hst hkeep hS hacc hal hG
    have hlt : i < xs.size := by omega
    have hlt2 : i < ys.size := by omega
    have hsz : acc.size = i := by rw [← Array.length_toList, hacc, List.length_map, hal]
    refine codeAny_builtin PySem.F.entry_extend_loop ?_
    rw [Around.under_plainId PySem.F.plain_extend_loop _]
    show wpAny _ A.in1 (pyNext (.ref z) >>= _) _ _ _
    refine wpAny_bind (nxtZ (s := { s with heap := h, toks := tk }) (S := S) D hlt hlt2 hst (Heap.lt_size hS) fun h' hst' ht hz hkp => ?_)
    dsimp only at ht hz hkp ⊢
    have hS' := hkp S _ (Ne.symm nz) (Ne.symm nTO) (Ne.symm ni1) (Ne.symm ni2) hS
    have up : ∀ b o, b ≠ S → h'.get? b = some o → (h'.update S (Obj.mapSeq (·.push (Value.ref h.objs.size)))).get? b = some o := fun b o hb e => (Heap.get?_update_other _ _ (Ne.symm hb)).trans e
    have hSl : S < h.objs.size := Heap.lt_size hS
    show wpAny _ A.in1 (updateSeq S (·.push (Value.ref h.objs.size)) >>= _) _ _ _
    refine wpAny_bind ?_
    refine wpAny_updateSeq hS' rfl (wpAny_pure ⟨plainId_quiet PySem.F.plain_extend_loop _, ih (i + 1) _ tk _ (acc.push (Value.ref h.objs.size)) (as ++ [h.objs.size]) (by omega) hlt (hst'.keep hfp up)
      (fun b o h1 h2 h3 h4 h5 e => up b o h1 (hkp b o h2 h3 h4 h5 (hkeep b o h1 h2 h3 h4 h5 e))) (Heap.get?_update_self _ hS' rfl) (by rw [Array.toList_push, hacc, List.map_append]; rfl) (by rw [List.length_append, hal]; rfl) ⟨?_, ?_, ?_⟩⟩) (by rw [hsz]; omega) (by show (acc.push (Value.ref h.objs.size)).size ≤ sizeLine + 1; rw [Array.size_push, hsz]; omega)
    · refine List.pairwise_append.mpr ⟨hG.rise, List.pairwise_singleton _ _, fun a ha b hb => ?_⟩
      rw [List.mem_singleton.mp hb]
      exact hG.there ha
    · intro a ha
      rcases List.mem_append.mp ha with ha | ha
      · exact hG.above a ha
      · rw [List.mem_singleton.mp ha]; exact hSl
    · intro j b hj
      rcases Nat.lt_trichotomy j as.length with h1 | h1 | h1
      · rw [List.getElem?_append_left h1] at hj
        obtain ⟨x, y, e1, e2, e3⟩ := hG.pairs j b hj
        have hb := hG.above b (List.mem_of_getElem? hj)
        exact ⟨x, y, e1, e2, up b _ (Nat.ne_of_gt hb) (hkp b _ (Nat.ne_of_gt (Nat.lt_trans lz hb)) (Nat.ne_of_gt (Nat.lt_trans lTO hb)) (Nat.ne_of_gt (Nat.lt_trans li1 hb)) (Nat.ne_of_gt (Nat.lt_trans li2 hb)) e3)⟩
      · subst h1
        have hb : h.objs.size = b := by simpa using hj
        subst hb
        exact ⟨xs[as.length]'(by omega), ys[as.length]'(by omega), Array.getElem?_eq_getElem _, Array.getElem?_eq_getElem _, up _ _ (Nat.ne_of_gt hSl) (by subst hal; exact ht)⟩
      · have hnone : (as ++ [h.objs.size])[j]? = none := List.getElem?_eq_none (by rw [List.length_append, List.length_singleton]; omega)
        rw [hnone] at hj; cases hj
end
section
variable {prog : Program} {w : World} {A : Around} {E : Value → Shared → Prop} {s : Shared} {xs ys : Array Value} {z TI TO i1 i2 l1 l2 : Addr}
/-- the zip object as it is made -/
def ZNew (z TI TO i1 i2 l1 l2 : Addr) (xs ys : Array Value) (h : Heap) : Prop := IsZip h z TI TO .none ∧ IsPair h TI (.ref i1) (.ref i2) ∧ (∃ a b, IsPair h TO a b) ∧ h.IsListIter i1 l1 0 ∧ h.IsListIter i2 l2 0 ∧ h.IsList l1 xs ∧ h.IsList l2 ys
theorem ZNew.st {S : Addr} {h : Heap} (x : ZNew z TI TO i1 i2 l1 l2 xs ys h) : ZSt z TI TO i1 i2 l1 l2 S xs ys 0 h := by
  obtain ⟨hz, hTI, ⟨a, b, hTO⟩, h1, h2, hl1, hl2⟩ := x
  exact ⟨hTI, h1, h2, hl1, hl2, .inl ⟨hz, a, b, hTO⟩⟩
theorem ZNew.lt {h : Heap} (x : ZNew z TI TO i1 i2 l1 l2 xs ys h) : ∀ b ∈ [z, TI, TO, i1, i2, l1, l2], b < h.objs.size := fun b hb => by
  obtain ⟨hz, hTI, ⟨a, c, hTO⟩, ⟨o1, h1, _⟩, ⟨o2, h2, _⟩, ⟨o3, hl1, _⟩, ⟨o4, hl2, _⟩⟩ := x
  simp only [List.mem_cons, List.not_mem_nil, or_false] at hb
  rcases hb with rfl | rfl | rfl | rfl | rfl | rfl | rfl
  all_goals first | exact Heap.lt_size hz | exact Heap.lt_size hTI | exact Heap.lt_size hTO | exact Heap.lt_size h1 | exact Heap.lt_size h2 | exact Heap.lt_size hl1 | exact Heap.lt_size hl2
theorem ZNew.keep {h h' : Heap} (x : ZNew z TI TO i1 i2 l1 l2 xs ys h) (hk : ∀ b o, h.get? b = some o → h'.get? b = some o) : ZNew z TI TO i1 i2 l1 l2 xs ys h' := by
  obtain ⟨hz, hTI, ⟨a, b, hTO⟩, h1, h2, hl1, hl2⟩ := x
  exact ⟨hk _ _ hz, hk _ _ hTI, ⟨a, b, hk _ _ hTO⟩, h1.at fun o e => hk _ o e, h2.at fun o e => hk _ o e, hl1.at fun o e => hk _ o e, hl2.at fun o e => hk _ o e⟩
theorem extZ {R : Result → Shared → Prop} {S : Addr} (D : ZipApart z TI TO i1 i2 l1 l2) (hh : A.handled = none) (hfp : ∀ b ∈ [z, TI, TO, i1, i2, l1, l2], b < S) (hn : xs.size ≤ sizeLine) (hxy : xs.size = ys.size) (res : Value) (c₀ : Nat) (hS : s.heap.get? S = some { cls := .type "list", data := .seq #[] c₀ }) (hst : ZSt z TI TO i1 i2 l1 l2 S xs ys 0 s.heap) (hzz : IsZip s.heap z TI TO .none)
    (hR : ∀ h' tk acc c as, (∀ b o, b ≠ S → b ≠ z → b ≠ TO → b ≠ i1 → b ≠ i2 → s.heap.get? b = some o → h'.get? b = some o) → h'.get? S = some { cls := .type "list", dict := none, data := .seq acc c, slots := #[] } → as.length = xs.size → MadeZ xs ys S h' as →
      acc.toList = as.map Value.ref → R (.ok (.ret res)) { s with heap := h', toks := tk }) :
    wpAny (model prog w) A.in1 (Builtin.List.listExtendWith (.ref S) (.ref z) res)
      (fun fin s' => match fin with | .done f => R (.ok f) s' | .again c' => c'.quiet = true ∧ codeAny (model prog w) A c' R s') (fun e s' => R (.error e) s') s := by
  have hTz : s.TypeIs (.ref z) "zip" := ⟨_, hzz, rfl⟩
  have hSz : S ≠ z := Nat.ne_of_gt (hfp z (by simp))
  have key : ∀ (h : Heap) (c₁ tk : Nat), (∀ b o, b ≠ S → s.heap.get? b = some o → h.get? b = some o) → h.get? S = some { cls := .type "list", data := .seq #[] c₁ } → codeAny (model prog w) A (.builtin "list.extend.loop" ⟨[.ref S, .ref z, res], []⟩) R { s with heap := h, toks := tk } := by
    intro h c₁ tk hk hS₁
    exact loopZ (s := s) (h₁ := s.heap) D hh hfp hn hxy res hR xs.size 0 h tk c₁ #[] [] (Nat.sub_zero _) (Nat.zero_le _) (hst.keep hfp hk) (fun b o hb _ _ _ _ e => hk b o hb e) hS₁ rfl rfl
      ⟨List.Pairwise.nil, (fun _ ha => nomatch ha), (fun j a hj => by simp at hj)⟩
  unfold Builtin.List.listExtendWith
  refine wpAny_bind (wpAny_typeOf (T := "zip") hTz ?_)
  have h1 : Builtin.List.listSameRef (.ref S) (.ref z) = false := by simp [Builtin.List.listSameRef, hSz]
  have h2 : (Value.type "zip" == Value.type "list") = false := by decide
  have h3 : (Value.type "zip" == Value.type "tuple") = false := by decide
  simp only [h1, h2, h3, Bool.or_false, Bool.false_eq_true, if_false]
  refine wpAny_bind (wpAny_pyIter_zip hzz ?_)
  refine wpAny_bind (wpAny_holding ?_)
  unfold Builtin.List.listLengthHint
  refine wpAny_bind (wpAny_specialOf hTz nolen_zip ?_)
  show wpAny _ A.in1 (specialOf (Value.ref z) (Str.ofString "__length_hint__") >>= _) _ _ _
  refine wpAny_bind (wpAny_specialOf hTz nohint_zip ?_)
  refine wpAny_pure ?_
  show wpAny _ A.in1 (rule "list.extend.makes-room" >>= fun _ => Builtin.List.listTouch (.ref S) >>= fun _ =>
    again (.builtin "list.extend.loop" ⟨[.ref S, .ref z, res], []⟩)) _ _ _
  refine wpAny_bind (wpAny_rule ?_)
  refine wpAny_bind ?_
  show wpAny _ _ (updateSeq S (·.push .none) >>= fun _ => updateSeq S (·.pop)) _ _ _
  refine wpAny_bind (wpAny_updateSeq hS rfl ?_)
  have hS₂ := Heap.get?_update_self (Obj.mapSeq (·.push Value.none)) hS rfl
  refine wpAny_updateSeq (hz := by seq_fits) hS₂ rfl ?_
  have hS₃ := Heap.get?_update_self (Obj.mapSeq (·.pop)) hS₂ rfl
  refine wpAny_pure ⟨plainId_quiet PySem.F.plain_extend_loop _, key _ _ _ (fun b o hb e => ?_) hS₃⟩
  exact (Heap.get?_update_other _ _ (Ne.symm hb)).trans ((Heap.get?_update_other _ _ (Ne.symm hb)).trans e)
theorem call_list_zip {Q : Value → Shared → Prop} (D : ZipApart z TI TO i1 i2 l1 l2) (hh : A.handled = none) (hz : ZNew z TI TO i1 i2 l1 l2 xs ys s.heap) (hn : xs.size ≤ sizeLine) (hxy : xs.size = ys.size)
    (hQ : ∀ h' tk acc c as, (∀ b o, b ≠ z → b ≠ TO → b ≠ i1 → b ≠ i2 → s.heap.get? b = some o → h'.get? b = some o) → h'.get? s.heap.objs.size = some { cls := .type "list", dict := none, data := .seq acc c, slots := #[] } → as.length = xs.size → MadeZ xs ys s.heap.objs.size h' as → acc.toList = as.map Value.ref →
      Q (.ref s.heap.objs.size) { s with heap := h', toks := tk }) :
    wpAny (model prog w) A (call (.type "list") [.ref z]) Q E s := by
  refine callType_codes (Q₁ := fun obj s₁ => obj = .ref s.heap.objs.size ∧ s₁ = { s with heap := s.heap.push { cls := .type "list", data := .seq #[] } }) PySem.F.called_list (PySem.F.typeCall_list_1 _) PySem.F.entry_list_init
    (code_list_new _ ⟨rfl, rfl⟩) fun obj s₁ h₁ => ?_
  obtain ⟨rfl, rfl⟩ := h₁
  have hS : (s.heap.push { cls := .type "list", data := .seq #[] }).get? s.heap.objs.size = some { cls := .type "list", data := .seq #[] } := Heap.get?_push_size _ rfl
  have hlt := hz.lt
  refine ⟨⟨_, hS, rfl⟩, PySem.F.args_list_init_2 _ _, ?_⟩
  show wpAny _ _ (do let old ← Builtin.List.listItems (.ref s.heap.objs.size); Builtin.List.listUpdate (.ref s.heap.objs.size) (fun _ => #[]); letGo old.toList.reverse; Builtin.List.listExtendWith (.ref s.heap.objs.size) (.ref z) .none) _ _ _
  refine wpAny_bind ?_
  unfold Builtin.List.listItems
  refine wpAny_bind (wpAny_seqItems hS rfl (wpAny_pure ?_))
  show wpAny _ _ (updateSeq s.heap.objs.size (fun _ => #[]) >>= fun _ => letGo (#[] : Array Value).toList.reverse >>= fun _ => Builtin.List.listExtendWith (.ref s.heap.objs.size) (.ref z) .none) _ _ _
  refine wpAny_bind (wpAny_updateSeq hS rfl ?_)
  have hS₂ := Heap.get?_update_self (Obj.mapSeq (fun _ => (#[] : Array Value))) hS rfl
  have oth : ∀ b o, s.heap.get? b = some o → ((s.heap.push { cls := .type "list", data := .seq #[] }).update s.heap.objs.size (Obj.mapSeq (fun _ => (#[] : Array Value)))).get? b = some o :=
    fun b o e => (Heap.get?_update_other _ _ (Nat.ne_of_gt (Heap.lt_size e))).trans (Heap.get?_push_of_some _ e)
  refine wpAny_bind (wpAny_letGo ?_)
  have hz2 := hz.keep oth
  refine extZ (prog := prog) (w := w) (A := A.in1) (R := wants (fun r s₂ => r = Value.none ∧ Q (Value.ref s.heap.objs.size) s₂) E) (s := { s with heap := (s.heap.push { cls := .type "list", data := .seq #[] }).update s.heap.objs.size (Obj.mapSeq (fun _ => (#[] : Array Value))) }) D hh hlt hn hxy .none _ hS₂ hz2.st hz2.1 (fun h' tk acc' c' as hk hS' hal hM hacc => ?_)
  exact ⟨rfl, hQ h' tk acc' c' as (fun b o h1 h2 h3 h4 e => hk b o (Nat.ne_of_lt (Heap.lt_size e)) h1 h2 h3 h4 (oth b o e)) hS' hal hM hacc⟩
end
end Fd
-- Dt
/-! dict(..) of pairs whose keys are tuples, sorted(..) of such a dict. -/
namespace Fd
open PySem PySem.Spec PyProof.Rows L2
/-- one pair of a key tuple and a value -/
structure KP where
  k : List Key
  b : Addr
  v : V
abbrev mergeT (kvs : List (List Key × V)) (ps : List KP) : List (List Key × V) := ps.foldl (fun acc x => putK acc x.k x.v) kvs
theorem mergeT_len : ∀ (ps : List KP) (kvs : List (List Key × V)), (mergeT kvs ps).length ≤ kvs.length + ps.length
  | [], kvs => Nat.le_refl _
  | p :: ps, kvs => by
    show (mergeT (putK kvs p.k p.v) ps).length ≤ _
    refine Nat.le_trans (mergeT_len ps _) ?_
    have : (putK kvs p.k p.v).length ≤ kvs.length + 1 := by
      unfold putK
      split
      · rw [List.length_map]; omega
      · rw [List.length_append, List.length_singleton]; exact Nat.le_refl _
    rw [List.length_cons]
    omega
def rDictT (K : PySem.W.Frag) : List V → Hp → VK → Prop := fun xs H Q => ∃ (a : Addr) (ps : List Addr) (kps : List KP), xs = [.ref a] ∧ SqL K H a (ps.map V.ref) ∧ Paired (fun p (x : KP) => SqT K H p [.ref x.b, x.v] ∧ H x.b = some (.tup (x.k.map kV))) ps kps ∧
    ∀ p, H p = none → Q (.ref p) (upd H p (.dT (mergeT [] kps)))
section
variable {X : Cx}
theorem pairsT_of {pins : List (Addr × Obj)} {σ : L2.St} {H : Hp} {s : Shared} (I : Inv X pins σ H s) : ∀ {ps : List Addr} {kps : List KP}, Paired (fun p (x : KP) => SqT X.K H p [.ref x.b, x.v] ∧ H x.b = some (.tup (x.k.map kV))) ps kps →
    ∃ us : List Value, Paired (fun (x : KP) u => RelV x.v u) kps us ∧ us.length = ps.length ∧ ∀ (j : Nat) (x : KP) (u : Value), kps[j]? = some x → us[j]? = some u → ∃ p : Addr, ps[j]? = some p ∧ IsTup s.heap p #[.ref x.b, u]
  | _, _, .nil => ⟨[], .nil, rfl, fun j x u e => by simp at e⟩
  | _, _, .cons (a := p) (b := kp) h t => by
    obtain ⟨us, r, hl, hp⟩ := pairsT_of I t
    obtain ⟨its, rv, ht, _⟩ := I.tuple h.1
    obtain ⟨u, y, ei, ru, ry⟩ := vals2 rv
    subst ei
    obtain rfl : u = Value.ref kp.b := ru
    refine ⟨y :: us, .cons ry r, by rw [List.length_cons, List.length_cons, hl], fun j x u e1 e2 => ?_⟩
    cases j with
    | zero =>
      cases (Option.some.inj e1)
      cases (Option.some.inj e2)
      exact ⟨p, rfl, ht⟩
    | succ j =>
      obtain ⟨b, q1, q2⟩ := hp j x u (by simpa using e1) (by simpa using e2)
      exact ⟨b, by simpa using q1, q2⟩
def trip (kps : List KP) (us : List Value) : List (List Key × Addr × Value) := kps.zipWith (fun x u => (x.k, x.b, u)) us
theorem merge_KT {H : Hp} : ∀ {kps : List KP} {us : List Value}, Paired (fun (x : KP) u => RelV x.v u) kps us → ∀ {kvs : List (List Key × V)} {xs : List (List Key × Addr × Value)}, (∀ x ∈ kps, H x.b = some (.tup (x.k.map kV))) → KT H kvs xs → KT H (mergeT kvs kps) (storedAllH xs (trip kps us)) := by
  intro kps us h
  induction h with
  | nil => intro kvs xs _ r; exact r
  | @cons x u kps us h t ih =>
    intro kvs xs hb r
    exact ih (fun y hy => hb y (List.mem_cons_of_mem _ hy)) (r.put x.k (hb x (List.mem_cons_self ..)) h)
theorem call_dictT (hcalm : X.calm = true) (hu : X.A.units + 2 < cLine) : CallR X (.type "dict") (rDictT X.K) := by
  intro pins s σ H xs us Q I r q
  obtain ⟨a, ps, kps, ex, hq, hp, q⟩ := q
  subst ex
  obtain ⟨u, eu, rx⟩ := vals1 r
  subst eu
  cases rx
  obtain ⟨its, rv, pl, hz⟩ := I.list hq
  have ei := refs_at rv
  subst ei
  rw [List.length_map] at hz
  obtain ⟨us, rel, hl, hpr⟩ := pairsT_of I hp
  obtain ⟨o, n, ho, hc, hd, hdat⟩ := pl
  have lk : kps.length = ps.length := hp.length.symm
  have ht : ∀ x ∈ kps, H x.b = some (.tup (x.k.map kV)) := fun x hx => by
    have : ∀ {ps : List Addr} {kps : List KP}, Paired (fun p (x : KP) => SqT X.K H p [.ref x.b, x.v] ∧ H x.b = some (.tup (x.k.map kV))) ps kps → ∀ x ∈ kps, H x.b = some (.tup (x.k.map kV)) := by
      intro ps kps h
      induction h with
      | nil => intro x hx; cases hx
      | cons h t ih =>
        intro x hx
        rcases List.mem_cons.mp hx with z | z
        · rw [z]; exact h.2
        · exact ih x z
    exact this hp x hx
  have key : ∀ (j : Nat) (k v : Value), ((kps.zipWith (fun x u => (Value.ref x.b, u)) us)[j]? = some (k, v)) → ∃ x p, kps[j]? = some x ∧ us[j]? = some v ∧ k = .ref x.b ∧ ps[j]? = some p ∧ IsTup s.heap p #[.ref x.b, v] := fun j k v e => by
    rw [List.getElem?_zipWith] at e
    cases e1 : kps[j]? with
    | none => rw [e1] at e; cases e
    | some x =>
      cases e2 : us[j]? with
      | none => rw [e1, e2] at e; cases e
      | some u =>
        rw [e1, e2] at e
        injection (Option.some.inj e) with f1 f2
        obtain ⟨p, q1, q2⟩ := hpr j x u e1 e2
        exact ⟨x, p, rfl, by rw [f2], f1.symm, q1, by rw [← f2]; exact q2⟩
  have lz : (kps.zipWith (fun x u => (Value.ref x.b, u)) us).length = ps.length := by rw [List.length_zipWith]; omega
  have lt : (trip kps us).length = ps.length := by unfold trip; rw [List.length_zipWith]; omega
  refine PySem.call_dict_pairsH (knd := tupleKind (mixKind X.prog X.w)) (ps := trip kps us) (PySem.PairArg.list a (ps.map Value.ref).toArray (fun j => ps.getD j 0) (kps.zipWith (fun x u => (Value.ref x.b, u)) us)) (I.ok.hd hcalm) (show X.A.in1.in1.units < cLine from Nat.lt_of_le_of_lt (by show X.A.units + 1 + 1 ≤ X.A.units + 2; exact Nat.le_refl _) hu) ⟨⟨o, n, ho, hc, hd, hdat⟩, ?_, fun j k v e => ?_⟩ ⟨by rw [lt, lz], fun j k v e => ?_⟩ (fun h' hk x hx => ?_) (by rw [lz]; exact hz) fun h' tk hd' hk => ?_
  · rw [List.size_toArray, List.length_map, lz]
  · obtain ⟨x, p, e1, e2, e3, e4, e5⟩ := key j k v e
    subst e3
    have eg : ps.getD j 0 = p := by rw [List.getD_eq_getElem?_getD, e4]; rfl
    show (List.map Value.ref ps).toArray[j]? = some (Value.ref (ps.getD j 0)) ∧ PairAt s.heap (ps.getD j 0) (Value.ref x.b) v
    rw [eg]
    exact ⟨by simp [e4], .inl e5⟩
  · obtain ⟨x, p, e1, e2, e3, e4, e5⟩ := key j k v e
    refine ⟨x.k, x.b, ?_, e3⟩
    unfold trip
    rw [List.getElem?_zipWith, e1, e2]
  · obtain ⟨j, hj⟩ := List.mem_iff_getElem?.mp hx
    unfold trip at hj
    rw [List.getElem?_zipWith] at hj
    cases e1 : kps[j]? with
    | none => rw [e1] at hj; cases hj
    | some y =>
      cases e2 : us[j]? with
      | none => rw [e1, e2] at hj; cases hj
      | some u =>
        rw [e1, e2] at hj
        cases hj
        have tb := ht y (List.mem_of_getElem? e1)
        obtain ⟨o, its, n, h1, h2, h3, h4⟩ := key_of I.hok tb
        exact ⟨o, its, n, hk _ _ (Nat.ne_of_lt (Heap.lt_size h1)) List.not_mem_nil h1, h2, h3, h4⟩
  · have hm : (s.heap.objs.size == sysModules) = false := beq_eq_false_iff_ne.mpr (Nat.ne_of_gt I.big)
    have hlen : (mergeT [] kps).length ≤ sizeLine := by
      refine Nat.le_trans (mergeT_len kps []) ?_
      rw [List.length_nil, Nat.zero_add, lk]
      exact hz
    have kt : KT H (mergeT [] kps) (storedAllH [] (trip kps us)) := merge_KT rel ht .nil
    have nn : H s.heap.objs.size = none := I.hok.fresh (Nat.le_refl _)
    obtain ⟨o', es, ep, h1, h2, h3, h4, _, h5⟩ := hd'
    refine ⟨.ref s.heap.objs.size, upd H s.heap.objs.size (.dT (mergeT [] kps)), I.laid (t' := tk) (fun b o e => hk b o List.not_mem_nil e) (Nat.le_refl _) (show ObjOk X.prog X.w _ _ _ (.dT (mergeT [] kps)) from ⟨hlen, hm, _, kt.keeps (fun b ys e => by rw [upd_ne (ne_of_none e nn)]; exact e), o', es, ep, h1, h2, h3, h4, h5⟩), rfl, q _ nn⟩
end
/-! ### sorted -/
/-- sorted(d), d a dict whose keys are tuples of n ints in [0, B) -/
def rSortDT (n : Nat) (B : Int) : List V → Hp → VK → Prop := fun xs H Q => ∃ (a : Addr) (kvs : List (List Key × V)), xs = [.ref a] ∧ Rd H a (.dT kvs) ∧ kvs.length < 64 ∧ (∀ p ∈ kvs, ∃ ns : List Int, p.1 = ns.map Sum.inl ∧ ns.length = n ∧ TS.Bd B ns) ∧
    ∀ (ys : List (Addr × List Int)) (p : Addr), (ys.map fun y => (y.2.map Sum.inl : List Key)).Perm (kvs.map (·.1)) → (∀ y ∈ ys, H y.1 = some (.tup (y.2.map V.int))) → ys.Pairwise (fun x y => TS.code B x.2 ≤ TS.code B y.2) → H p = none → Q (.ref p) (upd H p (.lst (ys.map fun y => V.ref y.1)))
theorem inl_inj : ∀ {a b : List Int}, (a.map Sum.inl : List Key) = b.map Sum.inl → a = b
  | [], [], _ => rfl
  | [], _ :: _, h => by cases h
  | _ :: _, [], h => by cases h
  | a :: as, b :: bs, h => by
    rw [List.map_cons, List.map_cons] at h
    injection h with h1 h2
    injection h1 with h1
    rw [h1, inl_inj h2]
section
variable {X : Cx}
theorem call_sortedDT {n : Nat} {B : Int} (hn : 1 ≤ n) (hcalm : X.calm = true) : CallR X (.builtin "sorted") (rSortDT n B) := by
  intro pins s σ H xs us Q I r q
  obtain ⟨d, kvs, ex, hd, h64, hk, q⟩ := q
  subst ex
  obtain ⟨u, eu, rx⟩ := vals1 r
  subst eu
  cases rx
  obtain ⟨z, hs, ks, pr, o, es, ep, ho, hx, hdt, he, hnd⟩ := (show ObjOk X.prog X.w H s.heap d (.dT kvs) from hd.ok I.hok)
  have l1 : es.size = ks.length := size_of_entries he
  have l2 : kvs.length = ks.length := Paired.length pr
  refine Calls.call_function_entry PyProof.Rows.kind_sorted PyProof.Rows.plain_sorted PyProof.Rows.entry_sorted (PyProof.Rows.args_sorted1 _) ?_
  unfold Builtin.«sorted»
  refine wpAny_bind (m := checkCount "sorted" 1 1 _) (wpAny_pure ?_)
  refine wpAny_bind (PySem.W.kdu_collect (A := X.A.in1) (kdl_raw hs hx hdt) (I.ok.hd hcalm) ho (by omega) fun h' tk acc hkp hacc => ?_)
  have ea : acc.toList = ks.map fun x => Value.ref x.2.1 := by
    have hl : acc.toList.length = ks.length := by rw [Array.length_toList, hacc.1]; exact l1
    apply List.ext_getElem?
    intro j
    rw [List.getElem?_map]
    cases hj : acc.toList[j]? with
    | none =>
      have h1 := List.getElem?_eq_none_iff.mp hj
      rw [List.getElem?_eq_none (by omega)]
      all_goals rfl
    | some v =>
      obtain ⟨en, hen, hv⟩ := hacc.2 j v (by rw [← Array.getElem?_toList]; exact hj)
      have qe := entry_at he j
      rw [hen] at qe
      cases hb : ks[j]? with
      | none =>
        rw [hb] at qe
        exact nomatch (show some en = none from qe)
      | some b =>
        rw [hb] at qe
        have e2 : en = entryOfKey (tupleKind (mixKind X.prog X.w)) b := Option.some.inj qe
        rw [hv, e2]
        all_goals rfl
  have kpair : ∀ {kvs : List (List Key × V)} {ks : List (List Key × Addr × Value)}, KT H kvs ks → (∀ p ∈ kvs, ∃ ns : List Int, p.1 = ns.map Sum.inl ∧ ns.length = n ∧ TS.Bd B ns) →
      ∃ L : List (Addr × List Int), L.map (fun y => Value.ref y.1) = ks.map (fun x => Value.ref x.2.1) ∧ L.map (fun y => (y.2.map Sum.inl : List Key)) = kvs.map (·.1) ∧ ∀ y ∈ L, y.2.length = n ∧ TS.Bd B y.2 ∧ H y.1 = some (.tup (y.2.map V.int)) := by
    intro kvs ks h
    induction h with
    | nil => intro _; exact ⟨[], rfl, rfl, fun y hy => by cases hy⟩
    | @cons p x ps xs h t ih =>
      intro hk
      obtain ⟨L, e1, e2, e3⟩ := ih fun p hp => hk p (List.mem_cons_of_mem _ hp)
      obtain ⟨ns, f1, f2, f3⟩ := hk p (List.mem_cons_self ..)
      refine ⟨(x.2.1, ns) :: L, by rw [List.map_cons, List.map_cons, e1], by rw [List.map_cons, List.map_cons, e2, f1], fun y hy => ?_⟩
      rcases List.mem_cons.mp hy with z | z
      · rw [z]
        refine ⟨f2, f3, ?_⟩
        have := h.2.1
        rw [f1, List.map_map] at this
        exact this
      · exact e3 y z
  obtain ⟨L, hL1, hL2, hL3⟩ := kpair pr hk
  have hLv : L.map (fun y => Value.ref y.1) = acc.toList := hL1.trans ea.symm
  have hLl : L.length = kvs.length := by
    have := congrArg List.length hL2
    rw [List.length_map, List.length_map] at this
    exact this
  have hal : acc.toList.length = L.length := by rw [← hLv, List.length_map]
  have I1 : Inv X pins σ H { s with heap := h', toks := tk } := I.kept hkp
  have tok : TS.TupsOk h' n B acc.toList := fun v hv => by
    rw [← hLv] at hv
    obtain ⟨y, hy, e⟩ := List.mem_map.mp hv
    obtain ⟨f1, f2, f3⟩ := hL3 y hy
    exact ⟨y.2, by rw [← e]; exact tupI_raw I1 (SqT.of f3), f1, f2⟩
  refine wpAny_bind (wpAny_newList ?_ (by rw [hal, sizeLine_eq]; omega))
  have hoL : (h'.push (seqObj "list" acc.toList.toArray 0)).get? h'.objs.size = some (seqObj "list" acc.toList.toArray 0) := Heap.get?_push_size _ rfl
  show wpAny _ _ _ _ _ { s with heap := h'.push (seqObj "list" acc.toList.toArray 0), toks := tk }
  refine wpAny_bind (wpAny_holding (wpAny_call_entry PyProof.Rows.slot_list_sort ⟨_, hoL, rfl⟩ PyProof.Rows.entry_list_sort
    (TS.sort_tups (s := { s with heap := h'.push (seqObj "list" acc.toList.toArray 0), toks := tk }) hoL (by omega) hn (tok.keeps fun b o e _ => Heap.get?_push_of_some _ e) (fun v => TS.code B (TS.intsOf h' v)) (fun v hv ns t => ?_) fun out g2 g3 => ⟨_, rfl, ?_⟩) (PyProof.Rows.args_list_sort _)))
  · obtain ⟨ns0, t0, _⟩ := tok v hv
    have e : ns = ns0 := t.ints.symm.trans (t0.keeps (fun b o e _ => Heap.get?_push_of_some _ e)).ints
    rw [e]
    show TS.code B (TS.intsOf h' v) = TS.code B ns0
    rw [t0.ints]
  obtain ⟨e', he'⟩ := PyProof.Rows.sortedHeap_at (vs := acc.toList) (out := out) hoL
  obtain ⟨ys, pz, ez⟩ := perm_lift (fun y : Addr × List Int => Value.ref y.1) g2 L hLv
  have hys : ∀ y ∈ ys, y.2.length = n ∧ TS.Bd B y.2 ∧ H y.1 = some (.tup (y.2.map V.int)) := fun y hy => hL3 y (pz.mem_iff.mp hy)
  have hlen : (ys.map fun y => V.ref y.1).length ≤ sizeLine := by
    rw [List.length_map, pz.length_eq, hLl]
    exact Nat.le_trans (Nat.le_of_lt h64) (by decide)
  have rv : Vals (ys.map fun y => V.ref y.1) out.toList := by
    rw [← ez]
    exact vals_maps (fun z : Addr × List Int => V.ref z.1) (fun z => Value.ref z.1) ys fun _ _ => rfl
  have hp2 : (ys.map fun y => (y.2.map Sum.inl : List Key)).Perm (kvs.map (·.1)) := by
    rw [← hL2]
    exact pz.map _
  have hs2 : ys.Pairwise (fun x y => TS.code B x.2 ≤ TS.code B y.2) := by
    rw [← ez, List.pairwise_map] at g3
    refine List.Pairwise.imp_of_mem (fun {x y} hx hy h => ?_) g3
    have a1 : TS.intsOf h' (.ref x.1) = x.2 := (tupI_raw I1 (SqT.of (hys x hx).2.2)).ints
    have a2 : TS.intsOf h' (.ref y.1) = y.2 := (tupI_raw I1 (SqT.of (hys y hy).2.2)).ints
    rw [a1, a2] at h
    exact h
  refine wpAny_pure ⟨_, rfl, .ref h'.objs.size, upd H h'.objs.size (.lst (ys.map fun y => V.ref y.1)), I1.laid (t' := tk) (fun b u e => ?_) (Nat.le_refl _)
    (show ObjOk X.prog X.w _ _ _ (.lst (ys.map fun y => V.ref y.1)) from ⟨hlen, out.toList, e', rv, by rw [Array.toArray_toList]; exact he'⟩), rfl, q ys _ hp2 (fun y hy => (hys y hy).2.2) hs2 (I1.hok.fresh (Nat.le_refl _))⟩
  have hb : b < h'.objs.size := Heap.lt_size e
  rw [PyProof.Rows.sortedHeap_old (Nat.ne_of_lt hb) (by rw [size_push']; exact Nat.lt_succ_of_lt hb)]
  exact Heap.get?_push_of_some _ e
end
end Fd
-- Pd
/-! Plain: drawn papers are papers, short ones. -/
namespace Fd
open PySem PySem.Spec PyProof.Rows L2
theorem okB_int {n : Nat} {i : Int} (h : gr i) : okB n (.int i) := by
  have : i.natAbs < 2 ^ 100 := by
    have h1 := h.1
    have h2 := h.2
    unfold HI at h2
    omega
  cases n <;> exact this
theorem okB_str {n : Nat} {s : Str} : okB n (.str s) := by cases n <;> exact trivial
theorem okB_ints {n : Nat} {ns : List Int} (h : ∀ i ∈ ns, gr i) (hl : ns.length ≤ 5000) : okB (n + 1) (.tuple (ns.map .int)) := ⟨by rw [List.length_map]; exact hl, fun d hd => by
  obtain ⟨i, hi, e⟩ := List.mem_map.mp hd
  rw [← e]
  exact okB_int (h i hi)⟩
theorem okB_part {w : Str} {d : PyData} (h : partB w d = true) : okB 2 d ∧ (wordFor w d).length ≤ 168 := by
  unfold partB at h
  unfold wordFor
  by_cases hc : (decide (w = tFill) || decide (w = tSight)) = true
  · rw [if_pos hc] at h ⊢
    obtain ⟨ns, n, e, h1, h2, h3⟩ := rowB_some h
    subst e
    have hg := lotI_gr h1 (by decide) (by decide)
    have gn : gr n := ⟨by omega, by unfold HI; omega⟩
    have l1 := listW_len hg.1
    have l2 := numW_len gn
    have l3 := hg.2.1
    refine ⟨⟨by simp, fun d hd => ?_⟩, ?_⟩
    · simp only [List.mem_cons, List.not_mem_nil, or_false] at hd
      rcases hd with e | e
      · subst e
        exact okB_ints hg.1 (by omega)
      · subst e
        exact okB_int gn
    · show (rowW ((intsOf (ns.map .int)).getD []) n).length ≤ _
      rw [tup_ints]
      unfold rowW
      rw [List.length_append, List.length_append]
      simp only [List.length_cons, List.length_nil]
      omega
  · rw [if_neg hc] at h ⊢
    by_cases hm : w = tMatch
    · rw [if_pos hm] at h ⊢
      obtain ⟨a, b, e, h1, h2, h3, h4⟩ := tieB_some h
      subst e
      have ga : gr a := ⟨h1, h2⟩
      have gb : gr b := ⟨h3, h4⟩
      refine ⟨⟨by simp, fun d hd => ?_⟩, ?_⟩
      · simp only [List.mem_cons, List.not_mem_nil, or_false] at hd
        rcases hd with e | e
        · subst e
          exact okB_int ga
        · subst e
          exact okB_int gb
      · have l1 := numW_len ga
        have l2 := numW_len gb
        show (tieW a b).length ≤ _
        unfold tieW
        rw [List.length_append, List.length_append]
        simp only [List.length_cons, List.length_nil]
        omega
    · rw [if_neg hm] at h ⊢
      by_cases hp : w = tPlan
      · rw [if_pos hp] at h ⊢
        obtain ⟨ns, e, h1⟩ := lotB_some h
        subst e
        have hg := lotI_gr h1 (by decide) (by decide)
        have l1 := listW_len hg.1
        have l3 := hg.2.1
        refine ⟨okB_ints hg.1 (by omega), ?_⟩
        show (listW ((intsOf (ns.map .int)).getD [])).length ≤ _
        rw [tup_ints]
        omega
      · rw [if_neg hp] at h ⊢
        obtain ⟨n, e, gn⟩ := great_gr h
        subst e
        refine ⟨okB_int gn, ?_⟩
        have l2 := numW_len gn
        show (numW n).length ≤ _
        omega
theorem okB_paper {d : PyData} (h : paperB d = true) : okB 4 d := by
  rcases paper_cases h with ⟨s, ns, e, h1, h2, h3⟩ | ⟨w, ds, e, hw, hr⟩
  · subst e
    have hg := lotI_gr h3 (by decide) (by decide)
    refine ⟨by simp, fun d hd => ?_⟩
    simp only [List.mem_cons, List.not_mem_nil, or_false] at hd
    rcases hd with e | e | e
    · subst e; exact okB_str
    · subst e; exact okB_int ⟨h1, by unfold HI; omega⟩
    · subst e; exact okB_ints hg.1 (by have := hg.2.1; omega)
  · subst e
    have hp := rest_part hr
    refine ⟨by simp, fun d hd => ?_⟩
    simp only [List.mem_cons, List.not_mem_nil, or_false] at hd
    rcases hd with e | e
    · subst e; exact okB_str
    · subst e
      exact ⟨by have := hp.2.1; omega, fun c hc => (okB_part (hp.1 c hc)).1⟩
/-- a paper that is short -/
def isDrawn (d : PyData) : Prop := paperB d = true ∧ (paperW d).length ≤ 2000
theorem drawn_rest {w : Str} {ds : List PyData} (hw : ¬ w = tCrowd) (h : restB w ds = true) (hl : ds.length ≤ 7) : isDrawn (.tuple [.str w, .tuple ds]) := by
  refine ⟨by rw [paper_rest hw]; exact h, ?_⟩
  have hp := rest_part h
  rw [paperW_rest hw]
  refine Nat.le_trans (join_le 32 168 _ fun x hx => ?_) ?_
  · rcases List.mem_cons.mp hx with e | e
    · subst e
      have := hp.2.2
      show w.cps.toList.length ≤ 168
      rw [← S_len, S_tl]
      omega
    · obtain ⟨c, hc, e⟩ := List.mem_map.mp e
      subst e
      exact (okB_part (hp.1 c hc)).2
  · rw [List.length_cons, List.length_map]
    omega
theorem drawn_crowd {s : Int} {ns : List Int} (h1 : 0 ≤ s) (h2 : s ≤ 1) (hr : rise ns = true) (hg : ∀ n ∈ ns, gr n) (hne : ns ≠ []) (hl : ns.length ≤ 7) : isDrawn (.tuple [.str tCrowd, .int s, .tuple (ns.map .int)]) := by
  have hlot : lotI ns 80 0 HI = true := by
    unfold lotI
    have hpos : 1 ≤ ns.length := by
      cases ns with
      | nil => exact (hne rfl).elim
      | cons _ _ => simp
    rw [decide_eq_true hpos, decide_eq_true (show ns.length ≤ 80 by omega), hr]
    simp only [Bool.true_and, Bool.and_true, List.all_eq_true, Bool.and_eq_true, decide_eq_true_eq]
    exact fun n hn => hg n hn
  refine ⟨?_, ?_⟩
  · unfold paperB
    dsimp only
    rw [if_pos rfl]
    show (wholeB (.int s) 0 1 && lotB (.tuple (ns.map .int)) 80 0 HI) = true
    rw [lotB_map, hlot, Bool.and_true]
    show (decide (0 ≤ s) && decide (s ≤ 1)) = true
    rw [decide_eq_true h1, decide_eq_true h2]
    rfl
  · rw [paperW_crowd]
    refine Nat.le_trans (join_le 32 168 _ fun x hx => ?_) (by simp)
    simp only [List.mem_cons, List.not_mem_nil, or_false] at hx
    rcases hx with e | e | e
    · subst e; decide +kernel
    · subst e
      exact Nat.le_trans (numW_len ⟨h1, by unfold HI; omega⟩) (by decide)
    · subst e
      have := listW_len hg
      omega
theorem rest_rows {w : Str} {ds : List PyData} (hw : w = tFill ∨ w = tSight) (h : chainB 96 ds = true) (hl : ds.length ≤ 3000) : restB w ds = true := by
  have hc : (decide (w = tFill) || decide (w = tSight)) = true := by
    rcases hw with e | e <;> simp [e]
  unfold restB
  rw [if_pos hc, h, Bool.and_true, decide_eq_true_eq]
  omega
theorem rest_match {ds : List PyData} (h : ds.all tieB = true) (hr : rise (ds.map fstI) = true) (hl : ds.length ≤ 80) : restB tMatch ds = true := by
  unfold restB tiesB
  rw [if_neg (by decide +kernel), if_pos rfl, h, hr, decide_eq_false (show ¬ (80 : Int) < ds.length by omega)]
  rfl
theorem rest_plan {ds : List PyData} (h : ds.all setB = true) (hl : ds.length ≤ 159) : restB tPlan ds = true := by
  unfold restB
  rw [if_neg (by decide +kernel), if_neg (by decide +kernel), if_pos rfl, h, decide_eq_true (show (ds.length : Int) ≤ 159 by omega)]
  rfl
theorem rest_vine {ds : List PyData} (h : ds.all greatB = true) (hl : ds.length ≤ 400) : restB tVine ds = true := by
  unfold restB
  rw [if_neg (by decide +kernel), if_neg (by decide +kernel), if_neg (by decide +kernel), h, decide_eq_true (show (ds.length : Int) ≤ 400 by omega), decide_eq_true rfl]
  rfl
/-! ### rows in order -/
theorem code_lex {B : Int} : ∀ {x y : List Int}, x.length = y.length → TS.Bd B x → TS.Bd B y → TS.code B x ≤ TS.code B y → x ≠ y → HT.lexLt x y = true
  | [], [], _, _, _, _, hne => (hne rfl).elim
  | [], _ :: _, h, _, _, _, _ => by simp at h
  | _ :: _, [], h, _, _, _, _ => by simp at h
  | a :: as, b :: bs, h, hx, hy, hc, hne => by
    have hl : as.length = bs.length := by simpa using h
    rw [HT.lexLt_cons]
    by_cases e : a = b
    · subst e
      rw [if_pos rfl]
      refine code_lex hl hx.tail hy.tail ?_ (fun z => hne (by rw [z]))
      have h1 : TS.code B (a :: as) = a * B ^ as.length + TS.code B as := rfl
      have h2 : TS.code B (a :: bs) = a * B ^ bs.length + TS.code B bs := rfl
      rw [h1, h2, hl] at hc
      omega
    · rw [if_neg e, decide_eq_true_eq]
      by_cases g : a < b
      · exact g
      · have := TS.code_lt hl.symm hy.tail hx.tail (show b < a by omega)
        omega
def rowD (y : List Int) (m : Int) : PyData := .tuple [.tuple (y.map .int), .int m]
theorem chain_go {n : Nat} : ∀ (ys : List (List Int)) (ms : List Int) (last : Option (List Int)), (∀ y ∈ ys, y.length = n) → ys.Pairwise (fun x y => HT.lexLt x y = true) → (∀ l, last = some l → l.length = n ∧ ∀ y ∈ ys, HT.lexLt l y = true) → adjFrom last (List.zipWith rowD ys ms) = true
  | [], ms, last, _, _, _ => by cases ms <;> rfl
  | y :: ys, [], last, _, _, _ => rfl
  | y :: ys, m :: ms, last, hy, hp, hl => by
    show (okKey last (keyOf (rowD y m)) && adjFrom (some (keyOf (rowD y m))) (List.zipWith rowD ys ms)) = true
    have hk : keyOf (rowD y m) = y := keyOf_row y _
    rw [hk, Bool.and_eq_true]
    have hp' := List.pairwise_cons.mp hp
    refine ⟨?_, chain_go ys ms (some y) (fun z hz => hy z (List.mem_cons_of_mem _ hz)) hp'.2 fun l e => ?_⟩
    · cases last with
      | none => rfl
      | some l =>
        obtain ⟨h1, h2⟩ := hl l rfl
        show (decide (y.length = l.length) && HT.lexLt l y) = true
        rw [h2 y (List.mem_cons_self ..), hy y (List.mem_cons_self ..), h1, decide_eq_true rfl]
        rfl
    · cases e
      exact ⟨hy y (List.mem_cons_self ..), hp'.1⟩
theorem rows_chain {n : Nat} {ys : List (List Int)} {ms : List Int} (hy : ∀ y ∈ ys, y.length = n ∧ lotI y 7 0 19 = true) (hm : ∀ m ∈ ms, 1 ≤ m ∧ m ≤ 96) (hp : ys.Pairwise (fun x y => HT.lexLt x y = true)) : chainB 96 (List.zipWith rowD ys ms) = true := by
  unfold chainB
  rw [Bool.and_eq_true]
  refine ⟨List.all_eq_true.mpr fun d hd => ?_, chain_go ys ms none (fun y h => (hy y h).1) hp fun l e => by cases e⟩
  obtain ⟨i, hi⟩ := List.mem_iff_getElem?.mp hd
  rw [List.getElem?_zipWith] at hi
  cases e1 : ys[i]? with
  | none => rw [e1] at hi; cases hi
  | some y =>
    cases e2 : ms[i]? with
    | none => rw [e1, e2] at hi; cases hi
    | some m =>
      rw [e1, e2] at hi
      cases hi
      have h1 := (hy y (List.mem_of_getElem? e1)).2
      have h2 := hm m (List.mem_of_getElem? e2)
      show (lotB (.tuple (y.map .int)) 7 0 19 && wholeB (.int m) 1 96) = true
      rw [lotB_map, h1]
      show (true && (decide (1 ≤ m) && decide (m ≤ 96))) = true
      rw [decide_eq_true h2.1, decide_eq_true h2.2]
      rfl
/-- numbers of a range, mixed, cut and sorted -/
theorem lot_sorted {lo : Int} {k : Nat} {ms ns rs : List Int} (h0 : 0 ≤ lo) (hlo : lo ≤ 1) (hr : rs = (List.range (20 - lo).toNat).map fun (i : Nat) => lo + (i : Int)) (hm : ms.Perm rs) (hn : ns.Perm (ms.take k)) (hs : ns.Pairwise (· ≤ ·)) (hk : 1 ≤ k) (hk7 : k ≤ 7) : lotI ns 7 lo 19 = true ∧ ns.length = k := by
  have hlen : ms.length = (20 - lo).toNat := by rw [hm.length_eq, hr, List.length_map, List.length_range]
  have hnl : ns.length = k := by
    rw [hn.length_eq, List.length_take, hlen]
    omega
  have nd : ns.Nodup := by
    refine hn.nodup_iff.mpr (List.Nodup.sublist (List.take_sublist k ms) (hm.nodup_iff.mpr ?_))
    rw [hr]
    refine List.pairwise_map.mpr (List.nodup_range.imp fun {a b} h e => h (by omega))
  have hmem : ∀ n ∈ ns, lo ≤ n ∧ n ≤ 19 := fun n h => by
    have h2 : n ∈ rs := hm.mem_iff.mp (List.mem_of_mem_take (hn.mem_iff.mp h))
    rw [hr] at h2
    obtain ⟨i, hi, e⟩ := List.mem_map.mp h2
    have := List.mem_range.mp hi
    omega
  refine ⟨?_, hnl⟩
  unfold lotI
  rw [decide_eq_true (show 1 ≤ ns.length by omega), decide_eq_true (show ns.length ≤ 7 by omega), sorted_rise nd hs]
  simp only [Bool.true_and, Bool.and_true, List.all_eq_true, Bool.and_eq_true, decide_eq_true_eq]
  exact hmem
end Fd
-- Zp
namespace Fd
open PySem PySem.Spec PyProof.Rows L2
/-- list(zip(a, b)), two lists of one length -/
def tLstZip (K : PySem.W.Frag) (ta : TA) : TE := fun σ H Q => ta σ H fun vs H1 => ∃ a b xs ys, vs = [.ref a, .ref b] ∧ SqL K H1 a xs ∧ SqL K H1 b ys ∧ xs.length = ys.length ∧
  ∀ (p : Addr) (ts : List Addr) (H2 : Hp), Same H1 H2 → H1 p = none → H2 p = some (.lst (ts.map V.ref)) → ts.length = xs.length → (∀ (j : Nat) (t : Addr), ts[j]? = some t → ∃ x y, xs[j]? = some x ∧ ys[j]? = some y ∧ H2 t = some (.tup [x, y])) → Q (.ref p) H2
theorem pe_lstZip (K : PySem.W.Frag) {X : Cx} {e e2 : Expr} {ta : TA} {p pos p2 pos2 : Pos} (hgl : Gl X "list") (hml : X.mg "list" = none) (hg : Gl X "zip") (hm : X.mg "zip" = none) (ha : PA X [e, e2] ta) (hK : X.K = K := by rfl) (hc : X.calm = true := by rfl)
    (na : starEach [Expr.Call (.Name "zip" p2) [e, e2] [] pos2] X.env = (false, eval (Expr.Call (.Name "zip" p2) [e, e2] [] pos2) X.env) :: starEach [] X.env := by rfl)
    (hs : starEach [e, e2] X.env = (false, eval e X.env) :: starEach [e2] X.env := by rfl) (hpl : (backTo pos2 (starEach [e2] X.env)).any (·.1) = false := by rfl) :
    PE X (.Call (.Name "list" p) [.Call (.Name "zip" p2) [e, e2] [] pos2] [] pos) (tLstZip K ta) := by
  subst hK
  refine ⟨fun pins s σ H Q I h => ?_⟩
  refine Call_ (ld_blt I hgl hml boot_list (PyProof.Rows.callWith_type1 (args_cons ?_ na) na))
  refine Call_ (ld_blt I hg hm PyProof.Rows.boot_zip (PyProof.Rows.callWith_type1 (thn (ha.run pos2 pins s σ H _ I h) fun us s1 ⟨vs, H1, I1, r1, q1⟩ => ?_) hs hpl))
  obtain ⟨a, b, xs, ys, ex, hqx, hqy, hxy, q⟩ := q1
  subst ex
  cases r1 with
  | cons r rr =>
    cases rr with
    | cons r' rr =>
      cases rr
      cases r
      cases r'
      obtain ⟨its, rv, p1, z1⟩ := I1.list hqx
      obtain ⟨its2, rv2, p2', z2⟩ := I1.list hqy
      have la : a < s1.heap.objs.size := p1.lt
      have lb : b < s1.heap.objs.size := p2'.lt
      refine call_zip_2 p1.isList p2'.isList fun h' hz hTI hTO h1 h2 hsz hk => args_nil ?_
      have hn : its.toArray.size ≤ sizeLine := by rw [List.size_toArray, ← rv.length]; exact z1
      have hsz2 : its.toArray.size = its2.toArray.size := by rw [List.size_toArray, List.size_toArray, ← rv.length, ← rv2.length]; exact hxy
      refine call_list_zip (s := { s1 with heap := h' }) (PySem.W.ktu_apart s1.heap.objs.size a b la lb) (I1.ok.hd hc) ⟨hz, hTI, ⟨_, _, hTO⟩, h1, h2, p1.isList.at fun o e => hk _ o e, p2'.isList.at fun o e => hk _ o e⟩ hn hsz2 fun h2' tk acc c as hk2 hS hal hM hacc => ?_
      have keep : ∀ b o, s1.heap.get? b = some o → h2'.get? b = some o := fun b o e => by
        have l := Heap.lt_size e
        exact hk2 b o (Nat.ne_of_lt (Nat.lt_of_lt_of_le l (Nat.le_add_right _ _))) (Nat.ne_of_lt (Nat.lt_of_lt_of_le l (Nat.le_add_right _ _))) (Nat.ne_of_lt l) (Nat.ne_of_lt (Nat.lt_of_lt_of_le l (Nat.le_add_right _ _))) (hk b o e)
      have hS' : h2'.get? h'.objs.size = some { cls := .type "list", dict := none, data := .seq acc c, slots := #[] } := hS
      have I2 : Inv X pins σ H1 { s1 with heap := h2', toks := tk } := I1.kept (t' := tk) keep
      have hn0 : H1 h'.objs.size = none := I1.hok.fresh (by omega)
      have hal' : as.length = xs.length := by rw [hal, List.size_toArray, ← rv.length]
      have rvl : Vals (as.map V.ref) acc.toList := by rw [hacc]; exact vals_refs as
      have hlen : (as.map V.ref).length ≤ sizeLine := by rw [List.length_map, hal']; exact z1
      have I3 : Inv X pins σ (upd H1 h'.objs.size (.lst (as.map V.ref))) { s1 with heap := h2', toks := tk } :=
        I2.take (h' := h2') (t' := tk) (fun b ob _ e => e) (I1.fpOk (by omega) hn0) ⟨hlen, acc.toList, c, rvl, by rw [Array.toArray_toList]; exact hS'⟩
      have nd : as.Nodup := hM.rise.imp fun h => Nat.ne_of_lt h
      have hab : ∀ t ∈ as, h'.objs.size < t := hM.above
      obtain ⟨H2, I4, g, qt⟩ := DX.takeT (P := fun t vs => ∃ (j : Nat) (x y : V), as[j]? = some t ∧ vs = [x, y] ∧ xs[j]? = some x ∧ ys[j]? = some y) I1 as _ I3 nd fun t ht => by
        obtain ⟨j, hj⟩ := List.mem_iff_getElem?.mp ht
        obtain ⟨u, u2, e1, e2, e3⟩ := hM.pairs j t hj
        have hlt := hab t ht
        have jx : j < xs.length := by
          have := (List.getElem?_eq_some_iff.mp hj).1
          omega
        have jy : j < ys.length := by omega
        have ex := List.getElem?_eq_getElem jx
        have ey := List.getElem?_eq_getElem jy
        obtain ⟨u', f1, r1⟩ := rv.get ex
        obtain ⟨u2', f2, r2⟩ := rv2.get ey
        have g1 : u = u' := by
          have e1' : its[j]? = some u := by simpa using e1
          rw [f1] at e1'
          exact (Option.some.inj e1').symm
        have g2 : u2 = u2' := by
          have e2' : its2[j]? = some u2 := by simpa using e2
          rw [f2] at e2'
          exact (Option.some.inj e2').symm
        refine ⟨by omega, ?_, [xs[j], ys[j]], ⟨j, _, _, hj, rfl, ex, ey⟩, fun H3 => ⟨(by rw [sizeLine_eq]; show 2 ≤ 16777216; omega), [u, u2], .cons (by rw [g1]; exact r1) (.cons (by rw [g2]; exact r2) .nil), ⟨_, e3, rfl, 0, rfl⟩⟩⟩
        rw [upd_ne (Nat.ne_of_gt hlt)]
        exact I1.hok.fresh (by omega)
      have gr : ∀ b o, H1 b = some o → H2 b = some o := fun b o e => g b o (by rw [upd_ne (ne_of_none e hn0)]; exact e)
      refine ⟨.ref h'.objs.size, H2, I4, rfl, q h'.objs.size as H2 gr hn0 (g _ _ upd_same) hal' fun j t hj => ?_⟩
      obtain ⟨vs, ⟨i, x, y, i1, ev, i2, i3⟩, hH⟩ := qt t (List.mem_of_getElem? hj)
      have eij : j = i := (List.getElem?_inj (List.getElem?_eq_some_iff.mp hj).1 nd).mp (hj.trans i1.symm)
      subst eij
      exact ⟨x, y, i2, i3, by rw [← ev]; exact hH⟩
end Fd
-- Pe
namespace Fd
open PySem PySem.Spec PyProof.Rows L2 LamX NdefX
theorem kSlL (K : PySem.W.Frag) {X : Cx} (h : X.K = K := by rfl) : SlR X (rSlL K) := by subst h; exact sl_list
theorem kSortI (K : PySem.W.Frag) {X : Cx} (h : X.K = K := by rfl) : CallR X (.builtin "sorted") (rSortedI K) := by subst h; exact cr_sortedI
theorem call_sortedDTx {X : Cx} (hc : X.calm = true) : CallR X (.builtin "sorted") (fun xs H Q => ∃ (n : Nat) (B : Int), 1 ≤ n ∧ rSortDT n B xs H Q) := fun pins s σ H xs us Q I r q => by
  obtain ⟨n, B, hn, q⟩ := q
  exact call_sortedDT hn hc pins s σ H xs us Q I r q
section
variable {W : Wd} {K : PySem.W.Frag} {σ : L2.St} {H H' : Hp} {ta tb te : TE} {tr : TA} {Pd Pe : PyData → Prop} {n : Nat} {ds : List PyData} {g : TG} {tt : TT} {vs : List Nat}
/-- arguments of which just Pl is known -/
def EvAD (W : Wd) (K : PySem.W.Frag) (ta : TA) (σ : L2.St) (H : Hp) (Pl : List PyData → Prop) : Prop := ∀ H1, Wx W H H1 → ∀ Q : List V → Hp → Prop, (∀ ds vs H2, Pl ds → Wx W H1 H2 → Rps K H2 ds vs → Q vs H2) → ta σ H1 Q
theorem ead_nil {Pl : List PyData → Prop} (h : Pl []) : EvAD W K tNil σ H Pl := fun H1 x Q k => k [] [] H1 h (Wx.refl x.2.1) (rps_nil.mpr rfl)
theorem ead_cons {Pl : List PyData → Prop} (h : EvX W K ta σ H Pd) (hr : ∀ d, Pd d → EvAD W K tr σ H fun ds => Pl (d :: ds)) : EvAD W K (tCons ta tr) σ H Pl := fun H1 x Q k =>
  h H1 x _ fun v H2 x2 ⟨d, hd, r⟩ => hr d hd H2 (x.trans x2) _ fun ds vs H3 hl x3 hs => k (d :: ds) (v :: vs) H3 hl (x2.trans x3) (rps_cons.mpr ⟨v, vs, rfl, x3.rp r, hs⟩)
theorem evx_tup {Pl : List PyData → Prop} (h : EvAD W K tr σ H Pl) (hl : ∀ ds, Pl ds → ds.length ≤ 1000000) (hp : ∀ ds, Pl ds → Pd (.tuple ds)) : EvX W K (tTup tr) σ H Pd := fun H1 x Q k =>
  h H1 x _ fun ds vs H2 hd x2 hs => ⟨by rw [hs.len]; exact sz_of (Nat.le_trans (hl ds hd) (by decide)), fun p hp2 => k _ _ (x2.trans (Wx.new x2.2.1 hp2)) ⟨.tuple ds, hp ds hd, rp_tup.mpr ⟨p, vs, rfl, SqT.of upd_same, (Wx.new x2.2.1 hp2).rps hs⟩⟩⟩
/-- a paper of a word and one part -/
theorem evx_pair {w : Str} (ha : Ev W K ta σ H (.str w)) (hb : EvX W K tb σ H Pd) (hp : ∀ d, Pd d → Pe (.tuple [.str w, d])) : EvX W K (tTup (tCons ta (tCons tb tNil))) σ H Pe :=
  evx_tup (Pl := fun ds => ∃ d, ds = [.str w, d] ∧ Pd d) (ead_cons (Pd := fun d => d = .str w) (evx_d ha rfl) fun d e => ead_cons hb fun d2 h2 => ead_nil ⟨d2, by rw [e], h2⟩) (fun ds h => by obtain ⟨d, e, _⟩ := h; rw [e]; simp) fun ds h => by
    obtain ⟨d, e, hd⟩ := h
    rw [e]
    exact hp d hd
/-! ### lists of anything -/
/-- a list of n values, each of which keeps Pv -/
@[reducible] def VP.ge (W : Wd) (Pv : Hp → V → Prop) (hk : ∀ H H' v, KeepT H H' → Pv H v → Pv H' v) (n : Nat) : VP W := ⟨fun H v => ∃ p xs, v = .ref p ∧ H p = some (.lst xs) ∧ ¬ W.M p ∧ xs.length = n ∧ ∀ x ∈ xs, Pv H x, fun {H H' v} x h => by
    obtain ⟨p, xs, e, h1, h2, h3, h4⟩ := h
    exact ⟨p, xs, e, x.2.2 _ _ h1 h2, h2, h3, fun y hy => hk _ _ _ x.keepT (h4 y hy)⟩⟩
@[reducible] def VP.v (W : Wd) (Pv : Hp → V → Prop) (hk : ∀ H H' v, KeepT H H' → Pv H v → Pv H' v) : VP W := ⟨Pv, fun {H H' v} x h => hk _ _ _ x.keepT h⟩
theorem el_lcG {wi : TI} {i : Nat} {Pv : Hp → V → Prop} {hk : ∀ H H' v, KeepT H H' → Pv H v → Pv H' v} (hs : Src W K wi σ H ds) (hl : ds.length ≤ 10000000) (hf : ∀ d ∈ ds, ∀ H1 x, Wx W H H1 → Rp K H1 d x → EvP te ((wipe σ vs).set i (some x)) H1 (VP.v W Pv hk)) (hw : ∀ x : V, wipe ((wipe σ vs).set i (some x)) vs = wipe σ vs := by intro _; rfl) :
    EvP (tLc wi (gName i) tYes te vs) σ H (VP.ge W Pv hk ds.length) := fun H1 x Q k =>
  hs H1 x _ fun J H2 x2 G D hD => by
    refine lc_it G.walk (fun i Hi => Wx W H2 Hi ∧ ∃ acc, Hi D = some (.lst acc) ∧ acc.length = i ∧ ∀ x ∈ acc, Pv Hi x) ⟨Wx.new x2.2.1 hD, [], upd_same, rfl, (fun e he => by cases he)⟩ (fun i Hi _ h => h.1) (fun i y Hi Hi' hi ⟨xi, acc, ha, hel, hep⟩ ⟨xy, hy⟩ => ?_) fun Hi ⟨xi, acc, ha, hel, hep⟩ => ?_
    · have hd : ds[i]? = some ds[i] := List.getElem?_eq_getElem hi
      have hx := hy _ hd
      have nD : ¬ W.M D := Wx.nM x2.2.1 hD
      refine ⟨hw y, ?_⟩
      refine (fun h => (Eq.mpr (if_pos (e := False) (rfl : true = true)) h)) ?_
      refine (hf ds[i] (List.getElem_mem hi) Hi' y ((x.trans x2).trans (xi.trans xy)) hx).run xy.2.1 fun v H4 x4 p4 => ?_
      have h4 : H4 D = some (.lst acc) := x4.2.2 _ _ (xy.2.2 _ _ ha nD) nD
      refine ⟨acc, h4, sz_lt (by omega), Wx.mut ((xi.trans xy).trans x4) hD h4 rfl, acc ++ [v], upd_same, by rw [List.length_append, hel]; rfl, fun e he => ?_⟩
      have kt : KeepT H4 (upd H4 D (.lst (acc ++ [v]))) := KeepT.mut h4 rfl
      rcases List.mem_append.mp he with z | z
      · exact hk _ _ _ ((xy.trans x4).keepT.trans kt) (hep e z)
      · rw [List.mem_singleton.mp z]
        exact hk _ _ _ kt p4
    · exact k _ Hi (x2.trans xi) ⟨D, acc, rfl, ha, Wx.nM x2.2.1 hD, hel, hep⟩
/-- a list of data, each made of one of the source -/
@[reducible] def VP.lr (W : Wd) (K : PySem.W.Frag) (R : PyData → PyData → Prop) (ds : List PyData) : VP W := ⟨fun H v => ∃ es, es.length = ds.length ∧ (∀ (i : Nat) (d e : PyData), ds[i]? = some d → es[i]? = some e → R d e) ∧ (VP.l W K es).P H v, fun {H H' v} x h => by
    obtain ⟨es, h1, h2, h3⟩ := h
    exact ⟨es, h1, h2, (VP.l W K es).st x h3⟩⟩
theorem el_lcR {wi : TI} {i : Nat} {R : PyData → PyData → Prop} (hs : Src W K wi σ H ds) (hl : ds.length ≤ 10000000) (hf : ∀ d ∈ ds, ∀ H1 x, Wx W H H1 → Rp K H1 d x → EvX W K te ((wipe σ vs).set i (some x)) H1 (R d)) (hw : ∀ x : V, wipe ((wipe σ vs).set i (some x)) vs = wipe σ vs := by intro _; rfl) :
    EvP (tLc wi (gName i) tYes te vs) σ H (VP.lr W K R ds) := fun H1 x Q k =>
  hs H1 x _ fun J H2 x2 G D hD => by
    refine lc_it G.walk (fun i Hi => Wx W H2 Hi ∧ ∃ acc es, Hi D = some (.lst acc) ∧ es.length = i ∧ (∀ (j : Nat) (d e : PyData), ds[j]? = some d → es[j]? = some e → R d e) ∧ Rps K Hi es acc) ⟨Wx.new x2.2.1 hD, [], [], upd_same, rfl, (fun j d e _ he => by simp at he), rps_nil.mpr rfl⟩ (fun i Hi _ h => h.1) (fun i y Hi Hi' hi ⟨xi, acc, es, ha, hel, hep, hr⟩ ⟨xy, hy⟩ => ?_) fun Hi ⟨xi, acc, es, ha, hel, hep, hr⟩ => ?_
    · have hd : ds[i]? = some ds[i] := List.getElem?_eq_getElem hi
      have hx := hy _ hd
      have nD : ¬ W.M D := Wx.nM x2.2.1 hD
      refine ⟨hw y, ?_⟩
      refine (fun h => (Eq.mpr (if_pos (e := False) (rfl : true = true)) h)) ?_
      refine (hf ds[i] (List.getElem_mem hi) Hi' y ((x.trans x2).trans (xi.trans xy)) hx).run xy.2.1 fun v H4 x4 ⟨d4, p4, r4⟩ => ?_
      have h4 : H4 D = some (.lst acc) := x4.2.2 _ _ (xy.2.2 _ _ ha nD) nD
      have lacc := hr.len
      refine ⟨acc, h4, sz_lt (by omega), Wx.mut ((xi.trans xy).trans x4) hD h4 rfl, acc ++ [v], es ++ [d4], upd_same, by rw [List.length_append, hel]; rfl, fun j d e h1 h2 => ?_, ?_⟩
      · rcases Nat.lt_trichotomy j es.length with z | z | z
        · rw [List.getElem?_append_left z] at h2
          exact hep j d e h1 h2
        · subst z
          rw [List.getElem?_concat_length] at h2
          cases h2
          rw [hel, hd] at h1
          cases h1
          exact p4
        · rw [List.getElem?_eq_none (by rw [List.length_append, List.length_singleton]; omega)] at h2
          cases h2
      · have kt : KeepT H4 (upd H4 D (.lst (acc ++ [v]))) := KeepT.mut h4 rfl
        exact (Rps.mono kt _ _ ((xy.trans x4).rps hr)).app (Rps.one (Rp.mono kt _ _ r4))
    · exact k _ Hi (x2.trans xi) ⟨es, hel, hep, D, acc, rfl, ha, Wx.nM x2.2.1 hD, hr⟩
/-- the source of a comprehension drawn: a tuple -/
theorem lc_ofT {p : VP W} (h : EvX W K ta σ H Pd) (hk : ∀ d, Pd d → ∀ v H2, Wx W H H2 → Rp K H2 d v → EvP (tLc (iTup K (tC v)) g tt te vs) σ H2 p) : EvP (tLc (iTup K ta) g tt te vs) σ H p := fun H1 x Q k =>
  h H1 x _ fun v H2 x2 ⟨d, hd, r⟩ => hk d hd v H2 (x.trans x2) r H2 (Wx.refl x2.2.1) Q fun u H3 x3 h3 => k u H3 (x2.trans x3) h3
/-- .. a range up to a number drawn -/
theorem lc_ofR {p : VP W} (h : EvX W K ta σ H Pd) (hk : ∀ d, Pd d → ∀ v H2, Wx W H H2 → Rp K H2 d v → EvP (tLc (iRng1 (tCons (tC v) tNil)) g tt te vs) σ H2 p) : EvP (tLc (iRng1 (tCons ta tNil)) g tt te vs) σ H p := fun H1 x Q k =>
  h H1 x _ fun v H2 x2 ⟨d, hd, r⟩ => hk d hd v H2 (x.trans x2) r H2 (Wx.refl x2.2.1) Q fun u H3 x3 h3 => k u H3 (x2.trans x3) h3
theorem ev_cv {v : V} {d : PyData} (r : Rp K H d v) : Ev W K (tC v) σ H d := fun H1 x Q k => k v H1 (Wx.refl x.2.1) (x.rp r)
theorem rng_len (n : Nat) : (rngD 0 ((n : Int)).toNat).length = n := by
  unfold rngD
  rw [List.length_map, List.length_range]
  omega
/-- tuple(list) of lists of which something is known -/
theorem evx_tupLR {R : PyData → PyData → Prop} (h : EvP te σ H (VP.lr W K R ds)) (hp : ∀ es : List PyData, es.length = ds.length → (∀ (i : Nat) (d e : PyData), ds[i]? = some d → es[i]? = some e → R d e) → Pd (.tuple es)) : EvX W K (tCB (rTupOf K) (tCons te tNil)) σ H Pd := fun H1 x Q k =>
  h H1 x _ fun v H2 x2 ⟨es, h1, h2, p, xs, e, hl, _, hs⟩ => ⟨p, xs, by rw [e], .inl ⟨SqL.of hl, fun l hn => k _ _ (x2.trans (Wx.new x2.2.1 hn)) ⟨.tuple es, hp es h1 h2, rp_tup.mpr ⟨l, xs, rfl, SqT.of upd_same, (Wx.new x2.2.1 hn).rps hs⟩⟩⟩⟩
theorem evx_tupLA {m : Nat} (h : EvP te σ H (VP.la W K Pe m)) (hp : ∀ es : List PyData, es.length = m → (∀ e ∈ es, Pe e) → Pd (.tuple es)) : EvX W K (tCB (rTupOf K) (tCons te tNil)) σ H Pd := fun H1 x Q k =>
  h H1 x _ fun v H2 x2 ⟨es, h1, h2, p, xs, e, hl, _, hs⟩ => ⟨p, xs, by rw [e], .inl ⟨SqL.of hl, fun l hn => k _ _ (x2.trans (Wx.new x2.2.1 hn)) ⟨.tuple es, hp es h1 h2, rp_tup.mpr ⟨l, xs, rfl, SqT.of upd_same, (Wx.new x2.2.1 hn).rps hs⟩⟩⟩⟩
end
section
variable {TT : List NTab} {j : Addr} {K : PySem.W.Frag} {σ : L2.St} {H H' : Hp} {i : Nat} {te tb tk : TE} {t : TA} {Pa Pe : PyData → Prop}
/-- a def that draws, called with something drawn -/
theorem ev_callJ1 {f : List PyData → (PyData → Prop) → Prop} {E : XK} (e : σ[i]? = some (some (.ref j))) (h : EvX (GW TT j) K te σ H Pa) (hf : ∀ d, Pa d → ∃ Pd, f [d] Pd ∧ ∀ z, Pd z → Pe z) : EvX (GW TT j) K (tCall (SpJ K TT f) [] E (tCons (tVar i) (tCons te tNil))) σ H Pe := fun H1 x Q k =>
  ⟨_, e, h H1 x _ fun v H2 x2 ⟨d, hd, r⟩ => by
    obtain ⟨Pd, h1, h2⟩ := hf d hd
    exact ⟨j, [v], [d], Pd, rfl, x2.2.1, Rps.one r, h1, fun z hz v' H3 x3 r3 => k v' H3 (x2.trans x3) ⟨z, h2 z hz, r3⟩⟩⟩
/-- a tracked tuple of numbers that is a lot -/
def isPc (lo : Int) (C : Nat → Prop) (H : Hp) (v : V) : Prop := ∃ (b : Addr) (ns : List Int), v = .ref b ∧ H b = some (.tup (ns.map V.int)) ∧ lotI ns 7 lo 19 = true ∧ C ns.length
theorem isPc_keep (lo : Int) (C : Nat → Prop) : ∀ H H' v, KeepT H H' → isPc lo C H v → isPc lo C H' v := fun H H' v k ⟨b, ns, e, h1, h2, h3⟩ => ⟨b, ns, e, k.1 _ _ h1, h2, h3⟩
/-- tuple(sorted(mixed(range(lo, 20))[:k])) -/
theorem pc_ev {lo : Int} {C : Nat → Prop} {rg : L2.St → Hp → (Int → Int → Hp → Prop) → Prop} {E : XK} (h0 : 0 ≤ lo) (h1 : lo ≤ 1) (e : σ[i]? = some (some (.ref j))) (hr : ∀ H1 R, R lo 20 H1 → rg σ H1 R) (hk : EvX (GW TT j) K tk σ H fun d => ∃ k : Nat, d = .int (k : Nat) ∧ 1 ≤ k ∧ k ≤ 7 ∧ C k) :
    EvP (tCB (rTupOf K) (tCons (tCB (rSortedI K) (tCons (tSl (rSlL K) (tCall (spMixed K TT) [] E (tCons (tVar i) (tCons (tLstRg rg) tNil))) tNoPart (tPart tk)) tNil)) tNil)) σ H (VP.v (GW TT j) (isPc lo C) (isPc_keep lo C)) := fun H1 x Q kq => by
  refine ⟨_, e, hr H1 _ ⟨⟨by omega, by omega, by decide, by decide, by omega⟩, fun q hq => ?_⟩⟩
  have xq := Wx.new (W := GW TT j) (o := .lst (rgV lo 20)) x.2.1 hq
  have erg : rgV lo 20 = ((List.range (20 - lo).toNat).map fun (i : Nat) => lo + (i : Int)).map V.int := by
    unfold rgV
    rw [List.map_map]
    rfl
  refine ⟨j, q, _, rfl, xq.2.1, by rw [upd_same, erg], Wx.nM x.2.1 hq, by rw [List.length_map, List.length_range]; omega, fun q2 ms H2 hperm x2 hq2 hms => ?_⟩
  have x12 := xq.trans x2
  refine hk H2 (x.trans x12) _ fun v H3 x3 ⟨_, ⟨k, ek, k1, k7, hC⟩, r⟩ => ?_
  subst ek
  have nq2 : ¬ (GW TT j).M q2 := Wx.nM xq.2.1 hq2
  have hms3 := x3.2.2 _ _ hms nq2
  refine ⟨(k : Nat), rp_int.mp r, q2, ms.map V.int, rfl, SqL.of hms3, fun q3 hq3 => ?_⟩
  have x4 := Wx.new (W := GW TT j) (o := .lst (cutV (ms.map V.int) none (some (k : Nat)))) x3.2.1 hq3
  have ecut : cutV (ms.map V.int) none (some ((k : Nat) : Int)) = (ms.take k).map V.int := by
    unfold cutV
    rw [HT.sIx_nat, HT.sIx_none, List.drop_zero, Nat.sub_zero, List.map_take]
    by_cases hz : k ≤ (ms.map V.int).length
    · rw [Nat.min_eq_left hz]
    · rw [Nat.min_eq_right (by omega), List.take_of_length_le (Nat.le_refl _), List.take_of_length_le (by omega)]
  refine ⟨q3, ms.take k, rfl, by rw [← ecut]; exact SqL.of upd_same, fun ns q4 hp4 hs4 hq4 => ?_⟩
  have x5 := Wx.new (W := GW TT j) (o := .lst (ns.map V.int)) x4.2.1 hq4
  refine ⟨q4, ns.map V.int, rfl, .inl ⟨SqL.of upd_same, fun l hl => ?_⟩⟩
  have x6 := Wx.new (W := GW TT j) (o := .tup (ns.map V.int)) x5.2.1 hl
  obtain ⟨f1, f2⟩ := lot_sorted h0 h1 rfl hperm hp4 hs4 k1 k7
  exact kq _ _ (((x12.trans x3).trans (x4.trans x5)).trans x6) ⟨l, ns, rfl, upd_same, f1, by rw [f2]; exact hC⟩
end
end Fd
-- J9
namespace Fd
open PySem PySem.Spec PyProof.Rows L2 LamX NdefX
/-! ### lists of data known together -/
@[reducible] def VP.lp (W : Wd) (K : PySem.W.Frag) (Pl : List PyData → Prop) : VP W := ⟨fun H v => ∃ es, Pl es ∧ (VP.l W K es).P H v, fun {H H' v} x h => by
    obtain ⟨es, h1, h3⟩ := h
    exact ⟨es, h1, (VP.l W K es).st x h3⟩⟩
section
variable {W : Wd} {K : PySem.W.Frag} {σ : L2.St} {H : Hp} {ta tb te : TE} {Pd Pe : PyData → Prop} {Pl : List PyData → Prop} {ds es : List PyData} {xs : List V}
theorem evx_tupLP (h : EvP te σ H (VP.lp W K Pl)) (hp : ∀ es : List PyData, Pl es → Pd (.tuple es)) : EvX W K (tCB (rTupOf K) (tCons te tNil)) σ H Pd := fun H1 x Q k =>
  h H1 x _ fun v H2 x2 ⟨es, h1, p, xs, e, hl, _, hs⟩ => ⟨p, xs, by rw [e], .inl ⟨SqL.of hl, fun l hn => k _ _ (x2.trans (Wx.new x2.2.1 hn)) ⟨.tuple es, hp es h1, rp_tup.mpr ⟨l, xs, rfl, SqT.of upd_same, (Wx.new x2.2.1 hn).rps hs⟩⟩⟩⟩
theorem lp_ofR {R : PyData → PyData → Prop} (h : EvP te σ H (VP.lr W K R ds)) (hp : ∀ es : List PyData, es.length = ds.length → (∀ (i : Nat) (d e : PyData), ds[i]? = some d → es[i]? = some e → R d e) → Pl es) : EvP te σ H (VP.lp W K Pl) := EvP.imp (q := VP.lp W K Pl) h fun H v _ ⟨es, h1, h2, h3⟩ => ⟨es, hp es h1 h2, h3⟩
theorem lp_ofA {m : Nat} (h : EvP te σ H (VP.la W K Pe m)) (hp : ∀ es : List PyData, es.length = m → (∀ e ∈ es, Pe e) → Pl es) : EvP te σ H (VP.lp W K Pl) := EvP.imp (q := VP.lp W K Pl) h fun H v _ ⟨es, h1, h2, h3⟩ => ⟨es, hp es h1 h2, h3⟩
theorem rel_map {α : Type} {f g : PyData → α} (hl : es.length = ds.length) (h : ∀ (i : Nat) (d e : PyData), ds[i]? = some d → es[i]? = some e → f e = g d) : es.map f = ds.map g := by
  apply List.ext_getElem?
  intro i
  rw [List.getElem?_map, List.getElem?_map]
  by_cases hi : i < ds.length
  · have h1 := List.getElem?_eq_getElem hi
    have h2 := List.getElem?_eq_getElem (show i < es.length by omega)
    rw [h1, h2]
    show some (f _) = some (g _)
    rw [h i _ _ h1 h2]
  · rw [List.getElem?_eq_none (show es.length ≤ i by omega), List.getElem?_eq_none (show ds.length ≤ i by omega)]
    rfl
theorem rps_get : ∀ {ds : List PyData} {xs : List V}, ds.length = xs.length → (∀ (i : Nat) (d : PyData) (v : V), ds[i]? = some d → xs[i]? = some v → Rp K H d v) → Rps K H ds xs
  | [], [], _, _ => rps_nil.mpr rfl
  | [], _ :: _, h, _ => by simp at h
  | _ :: _, [], h, _ => by simp at h
  | d :: ds, x :: xs, h, hh => rps_cons.mpr ⟨x, xs, rfl, hh 0 d x rfl rfl, rps_get (by simpa using h) fun i d v h1 h2 => hh (i + 1) d v (by simpa using h1) (by simpa using h2)⟩
theorem rp_ints {b : Addr} {ns : List Int} (h : H b = some (.tup (ns.map V.int))) : Rp K H (.tuple (ns.map .int)) (.ref b) := rp_tup.mpr ⟨b, _, rfl, SqT.of h, Rps.ints ns⟩
theorem pcs_rps {C : Nat → Prop} : ∀ {xs : List V}, (∀ x ∈ xs, isPc 1 C H x) → ∃ es : List PyData, Rps K H es xs ∧ es.all setB = true
  | [], _ => ⟨[], rps_nil.mpr rfl, rfl⟩
  | x :: xs, h => by
    obtain ⟨b, ns, e, hb, hl, _⟩ := h x (List.mem_cons_self ..)
    obtain ⟨es, h1, h2⟩ := pcs_rps fun y hy => h y (List.mem_cons_of_mem _ hy)
    refine ⟨.tuple (ns.map .int) :: es, rps_cons.mpr ⟨x, xs, rfl, by rw [e]; exact rp_ints hb, h1⟩, ?_⟩
    rw [List.all_cons, h2, Bool.and_true]
    show lotB (.tuple (ns.map .int)) 7 1 19 = true
    rw [lotB_map]
    exact hl
theorem setcb_then {D : Ends} {u : TS} {p : VP W} {r : List V → Hp → VK → Prop} {i : Nat} (j : W.J H) (h : EvP te σ H p) (k : ∀ v H', Wx W H H' → p.P H' v → r [v] H' fun y H2 => u D (σ.set i (some y)) H2) : tSeq (tAsg (tCB r (tCons te tNil)) (gName i)) u D σ H := h.run j k
/-- for i in range(a draw) -/
theorem forRX_then {D : Ends} {u tb : TS} {i : Nat} {mm : Int} (jw : W.J H) (h : EvX W K te σ H (inR mm)) (hm : mm ≤ 1000) (Inv : Nat → L2.St → Hp → Prop) (h0 : ∀ H1, Wx W H H1 → Inv 0 σ H1)
    (hst : ∀ (k : Nat) σ1 H1, (k : Int) < mm → Inv k σ1 H1 → tb { nx := fun σ' H' => Inv (k + 1) σ' H', ct := fun σ' H' => Inv (k + 1) σ' H', bk := u D, rt := D.rt } (σ1.set i (some (.int (k : Nat)))) H1) (hd : ∀ (n : Nat) σ' H', (n : Int) < mm → Inv n σ' H' → u D σ' H') : tSeq (tFor (iRng1 (tCons te tNil)) (gName i) tb) u D σ H :=
  h.run jw fun v H2 x2 ⟨d, ⟨n, e, n0, n1⟩, r⟩ => by
    subst e
    exact st_forR (W := W) (K := K) (te := tC v) (D := { D with nx := u D }) x2.2.1 (ev_cv r) (by omega) (by omega) Inv (fun H3 x3 => h0 H3 (x2.trans x3)) (fun k σ1 H1 hk hI => hst k σ1 H1 (by omega) hI) (fun σ' H' hI => hd n.toNat σ' H' (by omega) hI)
/-! ### the dict of pieces -/
/-- a pair (piece, True) -/
def isKv (K : PySem.W.Frag) (n : Nat) (H : Hp) (v : V) : Prop := ∃ (a b : Addr) (ns : List Int), v = .ref a ∧ SqT K H a [.ref b, .bl true] ∧ H b = some (.tup (ns.map V.int)) ∧ lotI ns 7 0 19 = true ∧ ns.length = n
theorem isKv_keep (K : PySem.W.Frag) (n : Nat) : ∀ H H' v, KeepT H H' → isKv K n H v → isKv K n H' v := fun H H' v k ⟨a, b, ns, e, h1, h2, h3⟩ => ⟨a, b, ns, e, k.sq h1, k.1 _ _ h2, h3⟩
theorem kv_ev {n : Nat} (h : EvP te σ H (VP.v W (isPc 0 fun l => l = n) (isPc_keep 0 fun l => l = n))) : EvP (tTup (tCons te (tCons (tC (.bl true)) tNil))) σ H (VP.v W (isKv K n) (isKv_keep K n)) := fun H1 x Q k =>
  h H1 x _ fun v H6 x6 ⟨b, ns, ev, hb, hl, hC⟩ => ⟨(by decide : 2 ≤ sizeLine), fun p hp => k _ _ (x6.trans (Wx.new x6.2.1 hp)) ⟨p, b, ns, rfl, SqT.of (by subst ev; exact upd_same), by rw [upd_ne (ne_of_none hb hp)]; exact hb, hl, hC⟩⟩
theorem inl_kV (ns : List Int) : (ns.map Sum.inl : List Key).map kV = ns.map V.int := by
  rw [List.map_map]
  rfl
theorem kps_of {n : Nat} : ∀ {xs : List V}, (∀ x ∈ xs, isKv K n H x) → ∃ (ps : List Addr) (kps : List KP), xs = ps.map V.ref ∧ kps.length = xs.length ∧ Paired (fun p (x : KP) => SqT K H p [.ref x.b, x.v] ∧ H x.b = some (.tup (x.k.map kV))) ps kps ∧ ∀ x ∈ kps, ∃ ns : List Int, x.k = ns.map Sum.inl ∧ lotI ns 7 0 19 = true ∧ ns.length = n
  | [], _ => ⟨[], [], rfl, rfl, .nil, fun x hx => by cases hx⟩
  | x :: xs, h => by
    obtain ⟨a, b, ns, e, h1, h2, h3, h4⟩ := h x (List.mem_cons_self ..)
    obtain ⟨ps, kps, e1, e2, e3, e4⟩ := kps_of fun y hy => h y (List.mem_cons_of_mem _ hy)
    refine ⟨a :: ps, ⟨ns.map Sum.inl, b, .bl true⟩ :: kps, by rw [e, e1]; rfl, by rw [List.length_cons, List.length_cons, e2], .cons ⟨h1, by rw [inl_kV]; exact h2⟩ e3, fun y hy => ?_⟩
    rcases List.mem_cons.mp hy with z | z
    · rw [z]; exact ⟨ns, rfl, h3, h4⟩
    · exact e4 y z
theorem mergeT_keys : ∀ (more : List KP) (kvs : List (List Key × V)), (kvs.map (·.1)).Nodup → ((mergeT kvs more).map (·.1)).Nodup ∧ (∀ k ∈ (mergeT kvs more).map (·.1), k ∈ kvs.map (·.1) ∨ k ∈ more.map (·.k))
  | [], kvs, h => ⟨h, fun k hk => .inl hk⟩
  | kv :: more, kvs, h => by
    have hk := putK_keys kvs kv.k kv.v
    have hn : ((putK kvs kv.k kv.v).map (·.1)).Nodup := by
      rw [hk]
      by_cases h2 : kv.k ∈ kvs.map (·.1)
      · rw [if_pos h2]; exact h
      · rw [if_neg h2]
        exact List.nodup_append.mpr ⟨h, (List.nodup_cons.mpr ⟨List.not_mem_nil, List.nodup_nil⟩), fun a ha b hb z => by
          rw [List.mem_singleton.mp hb] at z
          rw [z] at ha
          exact h2 ha⟩
    obtain ⟨a, b⟩ := mergeT_keys more (putK kvs kv.k kv.v) hn
    refine ⟨a, fun k hk2 => ?_⟩
    rcases b k hk2 with z | z
    · rw [hk] at z
      by_cases h2 : kv.k ∈ kvs.map (·.1)
      · rw [if_pos h2] at z; exact .inl z
      · rw [if_neg h2] at z
        rcases List.mem_append.mp z with z | z
        · exact .inl z
        · exact .inr (by rw [List.mem_singleton.mp z, List.map_cons]; exact List.mem_cons_self ..)
    · exact .inr (by rw [List.map_cons]; exact List.mem_cons_of_mem _ z)
def kD : Key → PyData
  | .inl i => .int i
  | .inr s => .str s
theorem rps_key : ∀ k : List Key, Rps K H (k.map kD) (k.map kV)
  | [] => rps_nil.mpr rfl
  | .inl i :: k => rps_cons.mpr ⟨_, _, rfl, rp_int.mpr rfl, rps_key k⟩
  | .inr i :: k => rps_cons.mpr ⟨_, _, rfl, rp_str.mpr rfl, rps_key k⟩
theorem src_keysT {i : Nat} {d : Addr} {o : Obj} {kvs : List (List Key × V)} (e : σ[i]? = some (some (.ref d))) (h : H d = some (.frz o (.dT kvs))) : Src W K (iKeys (tVar i)) σ H (kvs.map fun p => .tuple (p.1.map kD)) := fun H1 x R k => by
  have st : ∀ {H2 : Hp}, Wx W H H2 → H2 d = some (.frz o (.dT kvs)) := fun y => y.keepT.2 _ _ _ h
  refine ⟨.ref d, e, d, o, rfl, .inr ⟨kvs, st x, k _ H1 (Wx.refl x.2.1) ⟨fun i H hi y => ⟨st (x.trans y), by rw [List.length_map] at hi; exact hi⟩, fun H y => ⟨st (x.trans y), by rw [List.length_map]; exact Nat.le_refl _⟩, fun i H v H' hi y q => ?_⟩⟩⟩
  obtain ⟨e1, kk, vv, q, e2, e3, e4⟩ := q
  subst e1
  refine ⟨Wx.refl y.2.1, fun d' hd => ?_⟩
  rw [List.getElem?_map, e2] at hd
  cases hd
  rw [e3]
  exact rp_tup.mpr ⟨q, _, rfl, SqT.of e4, rps_key kk⟩
end
section
variable {TT : List NTab} {j : Addr} {H H0 : Hp}
/-- a locked thing is free again -/
theorem gw_free {d : Addr} {o : Obj} {u u' : HO} (x : Wx (GW TT j) H0 H) (hn : H0 d = none) (e : H d = some (.frz o u)) : Wx (GW TT j) H0 (upd H d u') := by
  have ne : ∀ {b o'}, H b = some o' → (∀ o u, o' ≠ .frz o u) → b ≠ d := fun {b o'} h z q => by
    rw [q, e] at h
    exact z _ _ (Option.some.inj h).symm
  refine ⟨x.1, ?_, fun b ob h n => ?_⟩
  · obtain ⟨⟨a, b, e1, ok⟩, t⟩ := x.2.1
    refine ⟨⟨a, b, by rw [upd_ne (ne e1 fun o u z => by cases z)]; exact e1, ok⟩, fun p hp => ?_⟩
    obtain ⟨ps, h1, h2, h3⟩ := t p hp
    refine ⟨ps, by rw [upd_ne (ne h1 fun o u z => by cases z)]; exact h1, h2, fun pos cv hc => ?_⟩
    obtain ⟨c, c1, c2⟩ := h3 pos cv hc
    exact ⟨c, c1, by rw [upd_ne (ne c2 fun o u z => by unfold CodeO at z; cases z)]; exact c2⟩
  · rw [upd_ne (ne_of_none h hn)]
    exact x.2.2 b ob h n
end
section
variable {P : Program} {w : World} {K : PySem.W.Frag} {mg : Str → Option Value} {base : Heap} {TT : List NTab}
theorem cd__law_paper_drawn (T : Tx K mg) : Cd P w K mg base CX0 5 "_law_paper_drawn" (SpJ K TT fun ds Pd => ds = [] ∧ Pd = isDrawn) := by
  refine cd_of (k := 5 - 1) T.d__law_paper_drawn sc__law_paper_drawn (fun _ _ _ _ _ _ us hl => match us, hl with | [_], _ => rfl) (SpJ.len fun ds r h => by obtain ⟨e, _⟩ := h; rw [e]; rfl) ?_
  intro f cdv A outer s H vs Q E hr ⟨j, us, ds, Pd, e, g, hs, ⟨e1, e2⟩, kk⟩
  subst e e1 e2
  obtain rfl := rps_nil.mp hs
  have hu2 : (A.deeper (envOfC "_law_paper_drawn" (defScope s__law_paper_drawn) s.heap.objs.size f cdv)).units + 2 < cLine := by
    have := hr.units
    omega
  refine ⟨_, (pss_cons (ps_set (i := 1) sc__law_paper_drawn.nd rfl (Or.inl rfl) (pe_d (cd__law_one (TT := TT) T) hr (by decide) (pa_cons (pv 0) (pa_cons (pe_lst (pa_cons pe_str (pa_cons pe_str (pa_cons pe_str (pa_cons pe_str (pa_cons pe_str (pa_cons pe_str pa_nil))))))) pa_nil))))
    (pss_cons (ps_if (pt_cmpR (kIn K) (pv 1) (pe_lst (pa_cons pe_str (pa_cons pe_str pa_nil))) (by first | exact nomark _ | rfl))
      (pss_cons (ps_set (i := 2) sc__law_paper_drawn.nd rfl (Or.inr rfl) (pe_d (cd__law_take T) hr (by decide) (pa_cons (pv 0) (pa_cons pe_int pa_nil))))
      (pss_cons (ps_set (i := 3) sc__law_paper_drawn.nd rfl (Or.inl rfl) (pe_callTy (call_dictT rfl hu2) (by rfl) T.n_dict (by decide +kernel) (pa_cons (pe_lc (own := [("go", 5)]) rfl sc__law_paper_drawn.nd (pi_range1 (by rfl) T.n_range (pa_cons (pv 2) pa_nil)) (blkOk_by (N := N__law_paper_drawn) (sc := defScope s__law_paper_drawn) (by decide +kernel)) (fun _ _ _ _ _ => (pg_name (i := 5) sc__law_paper_drawn.nd rfl (Or.inl rfl))) (fun _ _ _ _ _ => pts_nil) (fun _ _ _ _ _ => (pe_tup (pa_cons (pe_callTy (kTupOf K) (by rfl) T.n_tuple (by decide +kernel) (pa_cons (pe_callB (kSortI K) (by rfl) T.n_sorted (by decide +kernel) (pa_cons (pe_slice (kSlL K) (pe_d (cd__law_mixed (TT := TT) T) hr (by decide) (pa_cons (pv 0) (pa_cons (pe_listRg rfl (by rfl) T.n_list (prg_1 (by rfl) T.n_range pe_int)) pa_nil))) po_none (po_some (pe_op op_add pe_int (pe_op op_mod (pv 2) pe_int)))) pa_nil)) pa_nil)) (pa_cons pe_bl pa_nil))))) pa_nil)))
      (pss_cons (ps_lock (ps_setLc (i := 4) (own := [("piece", 6)]) rfl sc__law_paper_drawn.nd rfl rfl (sw_true rfl rfl rfl (by decide +kernel)) (pi_keys (pv 3)) (blkOk_by (N := N__law_paper_drawn) (sc := defScope s__law_paper_drawn) (by decide +kernel)) (fun _ _ _ _ _ => (pg_name (i := 6) sc__law_paper_drawn.nd rfl (Or.inl rfl))) (fun _ _ _ _ _ => pts_nil) (fun _ _ _ _ _ => (pe_d (cd__law_one (TT := TT) T) hr (by decide) (pa_cons (pv 0) (pa_cons (pe_lst (pa_cons pe_int (pa_cons pe_int (pa_cons pe_int (pa_cons pe_int (pa_cons (pe_op op_add pe_int (pe_d (cd__law_take T) hr (by decide) (pa_cons (pv 0) (pa_cons pe_int pa_nil)))) pa_nil)))))) pa_nil))))))
      (pss_one (ps_ret (pe_tup (pa_cons (pv 1) (pa_cons (pe_callTy (kTupOf K) (by rfl) T.n_tuple (by decide +kernel) (pa_cons (pe_lstZip K (by rfl) T.n_list (by rfl) T.n_zip (pa_cons (pe_callB (call_sortedDTx rfl) (by rfl) T.n_sorted (by decide +kernel) (pa_cons (pv 3) pa_nil)) (pa_cons (pv 4) pa_nil))) pa_nil)) pa_nil)))))))) pss_nil)
    (pss_cons (ps_if (pt_cmpR op_eq (pv 1) pe_str (nomark _))
      (pss_one (ps_ret (pe_tup (pa_cons (pv 1) (pa_cons (pe_d (cd__law_take T) hr (by decide) (pa_cons (pv 0) (pa_cons pe_int pa_nil))) (pa_cons (pe_d (cd__law_rising_drawn (TT := TT) T) hr (by decide) (pa_cons (pv 0) (pa_cons (pe_op op_add pe_int (pe_d (cd__law_take T) hr (by decide) (pa_cons (pv 0) (pa_cons pe_int pa_nil)))) pa_nil))) pa_nil)))))) pss_nil)
    (pss_cons (ps_if (pt_cmpR op_eq (pv 1) pe_str (nomark _))
      (pss_one (ps_ret (pe_tup (pa_cons (pv 1) (pa_cons (pe_callTy (kTupOf K) (by rfl) T.n_tuple (by decide +kernel) (pa_cons (pe_lc (own := [("one", 7)]) rfl sc__law_paper_drawn.nd (pi_tup (pe_d (cd__law_rising_drawn (TT := TT) T) hr (by decide) (pa_cons (pv 0) (pa_cons (pe_d (cd__law_take T) hr (by decide) (pa_cons (pv 0) (pa_cons pe_int pa_nil))) pa_nil)))) (blkOk_by (N := N__law_paper_drawn) (sc := defScope s__law_paper_drawn) (by decide +kernel)) (fun _ _ _ _ _ => (pg_name (i := 7) sc__law_paper_drawn.nd rfl (Or.inl rfl))) (fun _ _ _ _ _ => pts_nil) (fun _ _ _ _ _ => (pe_tup (pa_cons (pv 7) (pa_cons (pe_d (cd__law_great_drawn (TT := TT) T) hr (by decide) (pa_cons (pv 0) pa_nil)) pa_nil))))) pa_nil)) pa_nil))))) pss_nil)
    (pss_cons (ps_if (pt_cmpR op_eq (pv 1) pe_str (nomark _))
      (pss_one (ps_ret (pe_tup (pa_cons (pv 1) (pa_cons (pe_callTy (kTupOf K) (by rfl) T.n_tuple (by decide +kernel) (pa_cons (pe_lc (own := [("go", 5)]) rfl sc__law_paper_drawn.nd (pi_range1 (by rfl) T.n_range (pa_cons (pe_d (cd__law_take T) hr (by decide) (pa_cons (pv 0) (pa_cons pe_int pa_nil))) pa_nil)) (blkOk_by (N := N__law_paper_drawn) (sc := defScope s__law_paper_drawn) (by decide +kernel)) (fun _ _ _ _ _ => (pg_name (i := 5) sc__law_paper_drawn.nd rfl (Or.inl rfl))) (fun _ _ _ _ _ => pts_nil) (fun _ _ _ _ _ => (pe_d (cd__law_great_drawn (TT := TT) T) hr (by decide) (pa_cons (pv 0) pa_nil)))) pa_nil)) pa_nil))))) pss_nil)
    (pss_cons (ps_set (i := 3) sc__law_paper_drawn.nd rfl (Or.inl rfl) (pe_lst pa_nil))
    (pss_cons (ps_for PassesOwn.never rfl (pi_range1 (by rfl) T.n_range (pa_cons (pe_d (cd__law_take T) hr (by decide) (pa_cons (pv 0) (pa_cons pe_int pa_nil))) pa_nil)) (pg_name (i := 5) sc__law_paper_drawn.nd rfl (Or.inl rfl))
      (pss_one (ps_expr (pe_bm PySem.F.plainAttrs_list PySem.F.slot_list_append PySem.F.type_list_append mt_append (pv 3) (pa_cons (pe_callTy (kTupOf K) (by rfl) T.n_tuple (by decide +kernel) (pa_cons (pe_callB (kSortI K) (by rfl) T.n_sorted (by decide +kernel) (pa_cons (pe_slice sl_list (pe_d (cd__law_mixed (TT := TT) T) hr (by decide) (pa_cons (pv 0) (pa_cons (pe_listRg rfl (by rfl) T.n_list (prg_2 (by rfl) T.n_range pe_int pe_int)) pa_nil))) po_none (po_some (pe_op op_add pe_int (pe_d (cd__law_take T) hr (by decide) (pa_cons (pv 0) (pa_cons pe_int pa_nil)))))) pa_nil)) pa_nil)) pa_nil)))))
    (pss_one (ps_ret (pe_tup (pa_cons (pv 1) (pa_cons (pe_callTy (kTupOf K) (by rfl) T.n_tuple (by decide +kernel) (pa_cons (pv 3) pa_nil)) pa_nil)))))))))))), ?_⟩
  refine set_then (W := GW TT j) (p := VP.ex _ K (fun d => d ∈ [.str tFill, .str tSight, .str tCrowd, .str tMatch, .str tPlan, .str tVine])) g (ev_one rfl (es_of_l (el_lst (ea_cons ev_str (ea_cons ev_str (ea_cons ev_str (ea_cons ev_str (ea_cons ev_str (ea_cons ev_str ea_nil)))))) (by simp))) (by simp) (by simp)) fun v1 H1 x1 ⟨dw, hw, r1⟩ => ?_
  obtain ⟨wd, edw, hw6⟩ : ∃ w : Str, dw = .str w ∧ (w = tFill ∨ w = tSight ∨ w = tCrowd ∨ w = tMatch ∨ w = tPlan ∨ w = tVine) := by
    simp only [List.mem_cons, List.not_mem_nil, or_false] at hw
    rcases hw with e | e | e | e | e | e
    · exact ⟨_, e, .inl rfl⟩
    · exact ⟨_, e, .inr (.inl rfl)⟩
    · exact ⟨_, e, .inr (.inr (.inl rfl))⟩
    · exact ⟨_, e, .inr (.inr (.inr (.inl rfl)))⟩
    · exact ⟨_, e, .inr (.inr (.inr (.inr (.inl rfl))))⟩
    · exact ⟨_, e, .inr (.inr (.inr (.inr (.inr rfl))))⟩
  subst edw
  obtain rfl := rp_str.mp r1
  have rw1 : ∀ {H : Hp}, Rp K H (.str wd) (.str wd) := rp_str.mpr rfl
  have rq : ∀ {i : Int} {H : Hp}, Rp K H (.int i) (.int i) := rp_int.mpr rfl
  refine if_then (W := GW TT j) x1.2.1 (et_of (ev_inStr [tFill, tSight] (ev_var rfl rw1) (es_of_l (el_lst (ea_cons ev_str (ea_cons ev_str ea_nil)))))) (fun hb H2 x2 => ?_) fun hb H2 x2 => ?_
  · have hfs : wd = tFill ∨ wd = tSight := by
      rw [decide_eq_true_eq] at hb
      simpa using hb
    have hncr : ¬ wd = tCrowd := by
      rcases hfs with z | z
      · rw [z]; decide +kernel
      · rw [z]; decide +kernel
    have x02 := x1.trans x2
    refine set_then (W := GW TT j) (p := VP.ex _ K (inR 8)) x2.2.1 (ev_take rfl ev_int (by decide) (by decide)) fun vm H3 x3 ⟨_, ⟨many, em, m0, m1⟩, rm⟩ => ?_
    subst em
    obtain rfl := rp_int.mp rm
    obtain ⟨m, rfl⟩ : ∃ m : Nat, many = (m : Nat) := ⟨many.toNat, by omega⟩
    have x03 := x02.trans x3
    obtain ⟨n, hn⟩ : ∃ n : Nat, n = 1 + m % 7 := ⟨_, rfl⟩
    have hn1 : 1 ≤ n ∧ n ≤ 7 := by omega
    refine setcb_then (W := GW TT j) (p := VP.ge (GW TT j) (isKv K n) (isKv_keep K n) _) x3.2.1 (el_lcG (K := K) (W := GW TT j) (i := 5) (vs := [5]) (σ := [some (.ref j), some (.str wd), some (.int (m : Nat)), none, none, none, none, none]) (H := H3) (ds := rngD 0 ((m : Nat) : Int).toNat) (Pv := isKv K n) (hk := isKv_keep K n) (src_range1 (j := (m : Nat)) (ev_var (i := 2) rfl rq) (by omega) (by omega)) (by rw [rng_len]; omega) (fun d _ H4 x x4 r => ?_) (fun _ => rfl)) fun v H4 x4 ⟨p, xs, ev, hp, np, hlen, hall⟩ => ?_
    · exact kv_ev (pc_ev (K := K) (TT := TT) (j := j) (C := fun l => l = n) (lo := 0) (by decide) (by decide) rfl (fun H1 R h => ⟨20, rfl, h⟩) (evx_d (ev_opI0 ev_int (ev_opI (ev_var (i := 2) rfl rq) ev_int (by decide))) ⟨n, by rw [hn]; congr 1, hn1.1, hn1.2, rfl⟩))
    rw [rng_len] at hlen
    obtain ⟨ps, kps, exs, kl, kpair, kall⟩ := kps_of hall
    subst ev exs
    refine ⟨p, ps, kps, rfl, SqL.of hp, kpair, fun d hd => ?_⟩
    obtain ⟨hnd, hin⟩ := mergeT_keys kps [] List.nodup_nil
    have hml := mergeT_len kps []
    rw [List.length_nil, Nat.zero_add, kl, hlen] at hml
    generalize mergeT [] kps = kvs at hnd hin hml
    have hkeys : ∀ k ∈ kvs.map (·.1), ∃ ns : List Int, k = ns.map Sum.inl ∧ lotI ns 7 0 19 = true ∧ ns.length = n := fun k hk => by
      rcases hin k hk with z | z
      · cases z
      · obtain ⟨x, hx, e⟩ := List.mem_map.mp z
        rw [← e]
        exact kall x hx
    have x5 := Wx.new (W := GW TT j) (o := .dT kvs) x4.2.1 hd
    have nd : ¬ (GW TT j).M d := Wx.nM x4.2.1 hd
    have x05 := x03.trans (x4.trans x5)
    have hd0 : H d = none := (x03.trans x4).fresh hd
    have e5 : upd H4 d (.dT kvs) d = some (.dT kvs) := upd_same
    generalize upd H4 d (.dT kvs) = H5 at x5 x05 e5
    refine ⟨d, .dT kvs, e5, trivial, fun od => ?_⟩
    have x6 := Wx.mut x05 (o' := .frz od (.dT kvs)) hd0 e5 rfl
    have kt6 : KeepT H5 (upd H5 d (.frz od (.dT kvs))) := KeepT.mut e5 rfl
    have e6 : upd H5 d (.frz od (.dT kvs)) d = some (.frz od (.dT kvs)) := upd_same
    generalize upd H5 d (.frz od (.dT kvs)) = H6 at x6 kt6 e6
    refine set_last (W := GW TT j) (p := VP.la (GW TT j) K (fun d => ∃ i : Int, d = .int i ∧ 1 ≤ i ∧ i ≤ 96) _) x6.2.1 (el_lcP (K := K) (W := GW TT j) (i := 6) (vs := [6]) (σ := [some (.ref j), some (.str wd), some (.int (m : Nat)), some (.ref d), none, none, none, none]) (H := H6) (ds := kvs.map fun p => .tuple (p.1.map kD)) (hw := fun _ => rfl) (Pd := fun d => ∃ i : Int, d = .int i ∧ 1 ≤ i ∧ i ≤ 96) (src_keysT (i := 3) rfl e6) (by rw [List.length_map]; omega) fun d' _ H7 x x7 r => ev_oneA (n := 5) rfl (elp_lst (eap_cons (evx_d ev_int ⟨1, rfl, by decide, by decide⟩) (eap_cons (evx_d ev_int ⟨1, rfl, by decide, by decide⟩) (eap_cons (evx_d ev_int ⟨2, rfl, by decide, by decide⟩) (eap_cons (evx_d ev_int ⟨96, rfl, by decide, by decide⟩) (eap_cons (evx_opI0 (m := 96) ev_int (ev_take rfl ev_int (by decide) (by decide)) fun i h0 h1 => ⟨1 + i, rfl, by omega, by omega⟩) eap_nil))))))) fun v4 H7 x7 ⟨es, hel, hep, pn, xs4, ev4, hpn, npn, hrs⟩ => ?_
    rw [List.length_map] at hel
    have e7 : H7 d = some (.frz od (.dT kvs)) := x7.keepT.2 _ _ _ e6
    have x07 := x6.trans x7
    have x08 := gw_free (u' := .dT kvs) x07 hd0 e7
    have dp : pn ≠ d := fun z => by
      rw [z, e7] at hpn
      cases hpn
    have hes : ∀ {es : List PyData} {xs : List V}, (∀ e ∈ es, ∃ i : Int, e = .int i ∧ 1 ≤ i ∧ i ≤ 96) → Rps K H7 es xs → ∃ is : List Int, xs = is.map V.int ∧ is.length = es.length ∧ ∀ i ∈ is, 1 ≤ i ∧ i ≤ 96 := by
      intro es
      induction es with
      | nil => intro xs _ h; exact ⟨[], rps_nil.mp h, rfl, fun i hi => by cases hi⟩
      | cons e es ih =>
        intro xs he h
        obtain ⟨v, r, e1, h1, h2⟩ := rps_cons.mp h
        obtain ⟨i, ei, h3⟩ := he e (List.mem_cons_self ..)
        obtain ⟨is, f1, f2, f3⟩ := ih (fun e he' => he e (List.mem_cons_of_mem _ he')) h2
        subst ei
        refine ⟨i :: is, by rw [e1, rp_int.mp h1, f1]; rfl, by rw [List.length_cons, List.length_cons, f2], fun k hk => ?_⟩
        rcases List.mem_cons.mp hk with z | z
        · rw [z]; exact h3
        · exact f3 k z
    obtain ⟨is, exs4, hisl, his⟩ := hes hep hrs
    subst ev4 exs4
    refine ⟨e7, ?_⟩
    have e8 : upd H7 d (.dT kvs) d = some (.dT kvs) := upd_same
    have hpn8 : upd H7 d (.dT kvs) pn = some (.lst (is.map V.int)) := by rw [upd_ne dp]; exact hpn
    generalize upd H7 d (.dT kvs) = H8 at x08 e8 hpn8
    refine retJ kk x08 (evx_pair (Pd := fun z => ∃ rs, z = .tuple rs ∧ chainB 96 rs = true ∧ rs.length ≤ 7) (ev_var rfl rw1) (fun H9 x9 Q kq => ?_) fun z ⟨rs, e, h1, h2⟩ => by rw [e]; exact drawn_rest hncr (rest_rows hfs h1 (by omega)) h2)
    have e9 := x9.2.2 _ _ e8 nd
    have hpn9 := x9.2.2 _ _ hpn8 npn
    have h64 : kvs.length < 64 := by omega
    refine ⟨.ref d, rfl, n, 20, hn1.1, d, kvs, rfl, Rd.of e9, h64, fun p hp => ?_, fun ys p2 hperm hys hsort hp2 => ⟨.ref pn, rfl, p2, pn, ys.map (fun y => V.ref y.1), is.map V.int, rfl, SqL.of upd_same, SqL.of (by rw [upd_ne (ne_of_none hpn9 hp2)]; exact hpn9), ?_, fun p3 ts H10 s10 hp3 hts htl hpairs => ?_⟩⟩
    · obtain ⟨ns, f1, f2, f3⟩ := hkeys p.1 (List.mem_map_of_mem hp)
      refine ⟨ns, f1, f3, fun i hi => ?_⟩
      unfold lotI at f2
      simp only [Bool.and_eq_true, decide_eq_true_eq, List.all_eq_true] at f2
      have := f2.2.1 i hi
      omega
    · have := hperm.length_eq
      rw [List.length_map, List.length_map] at this
      rw [List.length_map, List.length_map]
      omega
    · have hyl : ys.length = kvs.length := by
        have := hperm.length_eq
        rw [List.length_map, List.length_map] at this
        exact this
      have hyk : ∀ y ∈ ys, y.2.length = n ∧ lotI y.2 7 0 19 = true := fun y hy => by
        have : (y.2.map Sum.inl : List Key) ∈ kvs.map (·.1) := hperm.mem_iff.mp (List.mem_map_of_mem (f := fun y : Addr × List Int => (y.2.map Sum.inl : List Key)) hy)
        obtain ⟨ns, f1, f2, f3⟩ := hkeys _ this
        rw [inl_inj f1]
        exact ⟨f3, f2⟩
      have hbd : ∀ y ∈ ys, TS.Bd 20 y.2 := fun y hy i hi => by
        have f2 := (hyk y hy).2
        unfold lotI at f2
        simp only [Bool.and_eq_true, decide_eq_true_eq, List.all_eq_true] at f2
        have := f2.2.1 i hi
        omega
      have hynd : ys.Pairwise (fun x y => x.2 ≠ y.2) := by
        have := hperm.nodup_iff.mpr hnd
        exact (List.pairwise_map.mp this).imp fun h e => h (by rw [e])
      have hlex : (ys.map (·.2)).Pairwise (fun x y => HT.lexLt x y = true) := by
        rw [List.pairwise_map]
        refine (hsort.and hynd).imp_of_mem fun {x y} hx hy h => ?_
        exact code_lex (by rw [(hyk x hx).1, (hyk y hy).1]) (hbd x hx) (hbd y hy) h.1 h.2
      have hch := rows_chain (n := n) (ys := ys.map (·.2)) (ms := is) (fun y hy => by
        obtain ⟨z, hz, e⟩ := List.mem_map.mp hy
        rw [← e]
        exact hyk z hz) his hlex
      rw [List.length_map] at htl
      have x10a := Wx.new (W := GW TT j) (o := .lst (ys.map fun y => V.ref y.1)) x9.2.1 hp2
      have x10 := x10a.trans (Wx.same x10a.2.1 s10)
      refine ⟨p3, ts.map V.ref, rfl, .inl ⟨SqL.of hts, fun l hl => kq _ _ (x10.trans (Wx.new x10.2.1 hl)) ⟨_, ⟨_, rfl, hch, ?_⟩, rp_tup.mpr ⟨l, _, rfl, SqT.of upd_same, rps_get ?_ fun i dd v h1 h2 => ?_⟩⟩⟩⟩
      · rw [List.length_zipWith, List.length_map]
        omega
      · rw [List.length_zipWith, List.length_map, List.length_map]
        omega
      · rw [List.getElem?_map] at h2
        cases ht : ts[i]? with
        | none => rw [ht] at h2; cases h2
        | some t =>
          rw [ht] at h2
          cases h2
          obtain ⟨x, y, g1, g2, g3⟩ := hpairs i t ht
          rw [List.getElem?_map] at g1 g2
          rw [List.getElem?_zipWith, List.getElem?_map] at h1
          cases hy : ys[i]? with
          | none => rw [hy] at g1; cases g1
          | some yy =>
            cases hi : is[i]? with
            | none => rw [hi] at g2; cases g2
            | some ii =>
              rw [hy] at g1 h1
              rw [hi] at g2 h1
              cases g1
              cases g2
              cases h1
              have hy9 := hys yy (List.mem_of_getElem? hy)
              have hy10 := (Wx.new (W := GW TT j) (o := .tup (ts.map V.ref)) x10.2.1 hl).keepT.1 _ _ (x10.keepT.1 _ _ hy9)
              have ht10 := (Wx.new (W := GW TT j) (o := .tup (ts.map V.ref)) x10.2.1 hl).keepT.1 _ _ g3
              exact rp_tup.mpr ⟨t, _, rfl, SqT.of ht10, rps_cons.mpr ⟨_, _, rfl, rp_ints hy10, Rps.one (rp_int.mpr rfl)⟩⟩
  have hnfs : ¬ (wd = tFill ∨ wd = tSight) := by
    rw [decide_eq_false_iff_not] at hb
    simpa using hb
  have x02 := x1.trans x2
  refine if_then (W := GW TT j) x2.2.1 (et_of (ev_eqS (ev_var rfl rw1) ev_str)) (fun hb3 H3 x3 => ?_) fun hb3 H3 x3 => ?_
  · obtain rfl : wd = tCrowd := of_decide_eq_true hb3
    refine retJ kk (x02.trans x3) (evx_tup (Pl := fun ds => ∃ (s : Int) (ns : List Int), ds = [.str tCrowd, .int s, .tuple (ns.map .int)] ∧ 0 ≤ s ∧ s ≤ 1 ∧ rise ns = true ∧ (∀ n ∈ ns, gr n) ∧ ns ≠ [] ∧ ns.length ≤ 7) (ead_cons (Pd := fun d => d = .str tCrowd) (evx_d (ev_var rfl rw1) rfl) fun d e => ead_cons (ev_take rfl ev_int (by decide) (by decide)) fun d2 h2 => ead_cons (Pd := fun d => ∃ ns : List Int, d = .tuple (ns.map .int) ∧ rise ns = true ∧ (∀ n ∈ ns, gr n) ∧ ns ≠ [] ∧ ns.length ≤ 7) (ev_callJ1 (Pa := fun d => ∃ n : Nat, d = .int (n : Nat) ∧ 1 ≤ n ∧ n ≤ 6) rfl (evx_opI0 (m := 6) ev_int (ev_take rfl ev_int (by decide) (by decide)) fun i h0 h1 => ⟨(1 + i).toNat, by congr 1; omega, by omega, by omega⟩) fun d3 ⟨n, e3, n1, n6⟩ => ⟨_, ⟨n, by rw [e3], rfl, by omega⟩, fun z ⟨ns, ez, z1, z2, z3, z4⟩ => ⟨ns, ez, z1, z2, z4 n1, by omega⟩⟩) fun d3 h3 => ead_nil ?_) (fun ds h => by obtain ⟨_, _, e, _⟩ := h; rw [e]; simp) fun ds h => ?_)
    · obtain ⟨i, ei, i0, i1⟩ := h2
      obtain ⟨ns, en, h4⟩ := h3
      exact ⟨i, ns, by rw [e, ei, en], i0, by omega, h4⟩
    · obtain ⟨s, ns, e, s0, s1, z1, z2, z3, z4⟩ := h
      rw [e]
      exact drawn_crowd s0 s1 z1 z2 z3 z4
  have hncr : ¬ wd = tCrowd := of_decide_eq_false hb3
  have x03 := x02.trans x3
  refine if_then (W := GW TT j) x3.2.1 (et_of (ev_eqS (ev_var rfl rw1) ev_str)) (fun hb4 H4 x4 => ?_) fun hb4 H4 x4 => ?_
  · obtain rfl : wd = tMatch := of_decide_eq_true hb4
    refine retJ kk (x03.trans x4) (evx_pair (Pd := fun z => ∃ rs, z = .tuple rs ∧ rs.all tieB = true ∧ rise (rs.map fstI) = true ∧ rs.length ≤ 7) (ev_var rfl rw1) (evx_tupLP (Pl := fun rs => rs.all tieB = true ∧ rise (rs.map fstI) = true ∧ rs.length ≤ 7) (lc_ofT (Pd := fun d => ∃ ns : List Int, d = .tuple (ns.map .int) ∧ rise ns = true ∧ (∀ n ∈ ns, gr n) ∧ ns.length ≤ 7) (ev_callJ1 (Pa := inR 6) rfl (ev_take rfl ev_int (by decide) (by decide)) fun d3 ⟨i, e3, i0, i1⟩ => ⟨_, ⟨i.toNat, by rw [e3]; congr 2; omega, rfl, by omega⟩, fun z ⟨ns, ez, z1, z2, z3, z4⟩ => ⟨ns, ez, z1, z2, by omega⟩⟩) fun d ⟨ns, ed, n1, n2, n3⟩ v H5 x5 r => ?_) fun rs h => ⟨rs, rfl, h⟩) fun z ⟨rs, e, h1, h2, h3⟩ => by rw [e]; exact drawn_rest (by decide +kernel) (rest_match h1 h2 (by omega)) h3)
    subst ed
    refine lp_ofR (el_lcR (R := fun d e => ∃ mm : Int, gr mm ∧ e = .tuple [d, .int mm]) (src_tup (ev_cv r)) (by rw [List.length_map]; omega) fun d _ H6 x x6 rx => ?_) fun es hel hrel => ?_
    · refine evx_tup (Pl := fun ds => ∃ mm : Int, gr mm ∧ ds = [d, .int mm]) (ead_cons (Pd := fun z => z = d) (evx_d (ev_var rfl rx) rfl) fun d1 e1 => ead_cons (Pd := isGreat) (ev_callJ rfl ea_nil ⟨rfl, rfl⟩) fun d2 h2 => ead_nil ?_) (fun ds h => by obtain ⟨_, _, e⟩ := h; rw [e]; simp) fun ds h => by
        obtain ⟨mm, g1, e⟩ := h
        exact ⟨mm, g1, by rw [e]⟩
      obtain ⟨mm, e2, g2⟩ := great_gr h2
      exact ⟨mm, g2, by rw [e1, e2]⟩
    · rw [List.length_map] at hel
      refine ⟨List.all_eq_true.mpr fun e he => ?_, ?_, by omega⟩
      · obtain ⟨i, hi⟩ := List.mem_iff_getElem?.mp he
        have hil : i < ns.length := by
          have := (List.getElem?_eq_some_iff.mp hi).1
          omega
        obtain ⟨mm, gm, ee⟩ := hrel i (.int ns[i]) e (by rw [List.getElem?_map, List.getElem?_eq_getElem hil]; rfl) hi
        subst ee
        have g1 := n2 _ (List.getElem_mem hil)
        show (greatB (.int ns[i]) && greatB (.int mm)) = true
        rw [show greatB (.int ns[i]) = true from great_int g1.1 g1.2, show greatB (.int mm) = true from great_int gm.1 gm.2]
        rfl
      · have := rel_map (f := fstI) (g := fun d => match d with | .int i => i | _ => 0) (ds := ns.map .int) (es := es) (by rw [List.length_map]; exact hel) fun i d e h1 h2 => by
          obtain ⟨mm, gm, ee⟩ := hrel i d e h1 h2
          subst ee
          rw [List.getElem?_map] at h1
          cases hq : ns[i]? with
          | none => rw [hq] at h1; cases h1
          | some z => rw [hq] at h1; cases h1; rfl
        rw [this, List.map_map]
        have e2 : (ns.map ((fun d => match d with | .int i => i | _ => 0) ∘ PyData.int)) = ns := by
          rw [show ((fun d => match d with | .int i => i | _ => 0) ∘ PyData.int : Int → Int) = id from rfl, List.map_id]
        rw [e2]
        exact n1
  have hnm : ¬ wd = tMatch := of_decide_eq_false hb4
  have x04 := x03.trans x4
  refine if_then (W := GW TT j) x4.2.1 (et_of (ev_eqS (ev_var rfl rw1) ev_str)) (fun hb5 H5 x5 => ?_) fun hb5 H5 x5 => ?_
  · obtain rfl : wd = tVine := of_decide_eq_true hb5
    refine retJ kk (x04.trans x5) (evx_pair (Pd := fun z => ∃ rs, z = .tuple rs ∧ rs.all greatB = true ∧ rs.length ≤ 7) (ev_var rfl rw1) (evx_tupLP (Pl := fun rs => rs.all greatB = true ∧ rs.length ≤ 7) (lc_ofR (K := K) (Pd := inR 7) (ev_take rfl ev_int (by decide) (by decide)) fun d ⟨i, ed, i0, i1⟩ v H6 x6 r => ?_) fun rs h => ⟨rs, rfl, h⟩) fun z ⟨rs, e, h1, h2⟩ => by rw [e]; exact drawn_rest (by decide +kernel) (rest_vine h1 (by omega)) h2)
    subst ed
    obtain ⟨k, rfl⟩ : ∃ k : Nat, i = (k : Nat) := ⟨i.toNat, by omega⟩
    exact lp_ofA (el_lcP (src_range1 (ev_cv r) (by omega) (by omega)) (by rw [rng_len]; omega) fun d _ H7 x x7 rx => ev_callJ (Pd := isGreat) rfl ea_nil ⟨rfl, rfl⟩) fun es hel hall => ⟨List.all_eq_true.mpr hall, by rw [rng_len] at hel; omega⟩
  have hnv : ¬ wd = tVine := of_decide_eq_false hb5
  obtain rfl : wd = tPlan := by
    rcases hw6 with z | z | z | z | z | z
    · exact (hnfs (.inl z)).elim
    · exact (hnfs (.inr z)).elim
    · exact (hncr z).elim
    · exact (hnm z).elim
    · exact z
    · exact (hnv z).elim
  have x05 := x04.trans x5
  refine lst_then (K := K) (W := GW TT j) x5.2.1 (ds := []) ea_nil (by simp) fun p H6 xs6 x6 hpn hp hs6 => ?_
  obtain rfl := rps_nil.mp hs6
  have x06 := x05.trans x6
  have hp0 : H p = none := x05.fresh hpn
  have np : ¬ (GW TT j).M p := Wx.nM g hp0
  refine forRX_then (W := GW TT j) (K := K) (mm := 6) (i := 5) x06.2.1 (ev_take rfl ev_int (by decide) (by decide)) (by decide) (fun i σ H8 => ∃ (o5 : Option V) (xs : List V), σ = [some (.ref j), some (.str tPlan), none, some (.ref p), none, o5, none, none] ∧ Wx (GW TT j) H H8 ∧ H8 p = some (.lst xs) ∧ xs.length = i ∧ ∀ x ∈ xs, isPc 1 (fun _ => True) H8 x)
    (fun H8 x8 => ⟨none, [], rfl, x06.trans x8, x8.2.2 _ _ hp np, rfl, fun x hx => by cases hx⟩) (fun i σ1 H8 hi ⟨o5, xs, e1, x8, hp8, hxl, hall⟩ => ?_) fun i σ1 H8 hi ⟨o5, xs, e1, x8, hp8, hxl, hall⟩ => ?_
  · subst e1
    refine ⟨.ref p, rfl, .inl ⟨rfl, _, SqL.of hp8⟩, ?_⟩
    refine (pc_ev (K := K) (TT := TT) (j := j) (i := 0) (C := fun _ => True) (lo := 1) (by decide) (by decide) rfl (fun H1 R h => ⟨1, 20, rfl, rfl, h⟩) (evx_opI0 (m := 7) ev_int (ev_take rfl ev_int (by decide) (by decide)) fun i h0 h1 => ⟨(1 + i).toNat, by congr 1; omega, by omega, by omega, trivial⟩)).run (W := GW TT j) x8.2.1 fun v H9 x9 hv => ?_
    have hp9 := x9.2.2 _ _ hp8 np
    refine ⟨p, xs, v, rfl, rfl, hp9, sz_lt (by omega), some (.int (i : Nat)), xs ++ [v], rfl, Wx.mut (x8.trans x9) hp0 hp9 rfl, upd_same, by rw [List.length_append, hxl]; rfl, fun x hx => ?_⟩
    have kt : KeepT H9 (upd H9 p (.lst (xs ++ [v]))) := KeepT.mut hp9 rfl
    rcases List.mem_append.mp hx with z | z
    · exact isPc_keep _ _ _ _ _ (x9.keepT.trans kt) (hall x z)
    · rw [List.mem_singleton.mp z]
      exact isPc_keep _ _ _ _ _ kt hv
  · subst e1
    obtain ⟨es, h1, h2⟩ := pcs_rps (K := K) hall
    have hel := h1.len
    exact retJ kk x8 (evx_pair (Pd := fun z => ∃ rs, z = .tuple rs ∧ rs.all setB = true ∧ rs.length ≤ 7) (ev_var rfl rw1) (evx_d (ev_tupOf (evp_var (p := VP.l (GW TT j) K es) rfl ⟨p, xs, rfl, hp8, np, h1⟩)) ⟨es, rfl, h2, by omega⟩) fun z ⟨rs, e, h1, h2⟩ => by rw [e]; exact drawn_rest (by decide +kernel) (rest_plan h1 (by omega)) h2)
end
end Fd
-- P1
namespace Fd
open PySem PySem.Spec PyProof.Rows L2 LamX NdefX
def spPool (K : PySem.W.Frag) : Sp := fun vs H Q _ => ∃ (a : Addr) (ns : List Int), vs = [.ref a, .int 0] ∧ SqL K H a (ns.map V.int) ∧ ∀ p H' x y, Same H H' → H p = none → H' p = some (jarV x y) → okJar x y → Q (.ref p) H'
section
variable {W : Wd} {K : PySem.W.Frag} {σ : L2.St} {H : Hp} {ta tb te : TE}
theorem ev_max2 {n m : Int} (ha : Ev W K ta σ H (.int n)) (hb : Ev W K tb σ H (.int m)) : Ev W K (tCB (fun xs H Q => ∃ n m, xs = [.int n, .int m] ∧ Q (.int (if m > n then m else n)) H) (tCons ta (tCons tb tNil))) σ H (.int (if m > n then m else n)) := fun H1 x Q k =>
  ha H1 x _ fun v H2 x2 hv => hb H2 (x.trans x2) _ fun u H3 x3 hu => ⟨n, m, by rw [rp_int.mp hv, rp_int.mp hu], k _ H3 (x2.trans x3) (rp_int.mpr rfl)⟩
theorem ifs_int {D : Ends} {u : TS} {t1 t2 : TT} {e1 e2 : TE} {i : Nat} {b1 b2 : Bool} {c0 : Int} (h1 : EvT W0 t1 σ H b1) (g1 : b1 = true → ∃ c, Ev W0 K e1 σ H (.int c)) (h2 : b1 = false → EvT W0 t2 σ H b2) (g2 : b1 = false → b2 = true → ∃ c, Ev W0 K e2 σ H (.int c)) (h0 : σ.set i (some (.int c0)) = σ)
    (k : ∀ (c : Int) H1, Wx W0 H H1 → u D (σ.set i (some (.int c))) H1) : tSeq (tIfS t1 (tAsg e1 (gName i)) (tIfS t2 (tAsg e2 (gName i)) tNext)) u D σ H := by
  refine ifelse_then (W := W0) trivial h1 (fun hb H1 x1 => ?_) fun hb H1 x1 => ?_
  · obtain ⟨c, hc⟩ := g1 hb
    refine set_last (W := W0) (p := VP.d W0 K (.int c)) trivial (hc.mono x1) fun v H2 x2 r => ?_
    obtain rfl := rp_int.mp r
    exact k c H2 (x1.trans x2)
  · refine st_if (W := W0) trivial ((h2 hb).mono x1) (fun hb2 H2 x2 => ?_) fun hb2 H2 x2 => ?_
    · obtain ⟨c, hc⟩ := g2 hb hb2
      refine set_last (W := W0) (p := VP.d W0 K (.int c)) trivial (hc.mono (x1.trans x2)) fun v H3 x3 r => ?_
      obtain rfl := rp_int.mp r
      exact k c H3 ((x1.trans x2).trans x3)
    · have := k c0 H2 (x1.trans x2)
      rw [h0] at this
      exact this
end
section
variable {P : Program} {w : World} {K : PySem.W.Frag} {mg : Str → Option Value} {base : Heap}
theorem cd__law_pool (T : Tx K mg) : Cd P w K mg base CX0 1 "_law_pool" (spPool K) := by
  refine cd_of (k := 1 - 1) T.d__law_pool sc__law_pool (fun _ _ _ _ _ _ us hl => match us, hl with | [_, _], _ => rfl) (fun vs H Q E h => by obtain ⟨_, _, e, _⟩ := h; rw [e]; rfl) ?_
  intro f cdv A outer s H vs Q E hr ⟨a, ns, e, ha, kk⟩
  subst e
  refine ⟨_, (pss_cons (ps_set (i := 2) sc__law_pool.nd rfl (Or.inl rfl) pe_int)
    (pss_cons (ps_if (pt_cmpR op_lt (pv 1) (pe_callB (kLen K) (by rfl) T.n_len PySem.boot_len (pa_cons (pv 0) pa_nil)) (nomark _))
      (pss_one (ps_set (i := 2) sc__law_pool.nd rfl (Or.inl rfl) (pe_ix (ixL K) (pv 0) (pv 1) (fun _ _ => rfl)))) (pss_one (ps_if (pt_cmpR (op_ne0 hr.units0) (pv 0) (pe_lst pa_nil) (nomark _))
        (pss_one (ps_set (i := 2) sc__law_pool.nd rfl (Or.inl rfl) (pe_ix (ixL K) (pv 0) pe_int (fun _ _ => rfl)))) pss_nil)))
    (pss_cons (ps_set (i := 3) sc__law_pool.nd rfl (Or.inl rfl) (pe_callB (call_max2 rfl) (by rfl) T.n_max (by decide +kernel) (pa_cons (pe_callTy call_int1 (by rfl) T.n_int (by decide +kernel) (pa_cons (pv 2) pa_nil)) (pa_cons (pe_callTy call_int1 (by rfl) T.n_int (by decide +kernel) (pa_cons (pe_op op_sub (pe_un un_neg pe_int) (pv 2)) pa_nil)) pa_nil))))
    (pss_cons (ps_set (i := 4) sc__law_pool.nd rfl (Or.inl rfl) (pe_op op_mod (pe_callTy call_int1 (by rfl) T.n_int (by decide +kernel) (pa_cons (pe_op op_mul (pe_op op_add (pe_op op_add (pe_op op_add (pe_op op_mod (pe_callTy call_int1 (by rfl) T.n_int (by decide +kernel) (pa_cons (pv 3) pa_nil)) pe_int) (pe_op op_mul (pe_op op_mul pe_int (pv 1)) (pv 1))) (pe_op op_mul pe_int (pv 1))) pe_int) pe_int) pa_nil)) pe_int))
    (pss_one (ps_ret (pe_lst (pa_cons (pe_op op_mul (pv 3) (pe_callTy call_int1 (by rfl) T.n_int (by decide +kernel) (pa_cons (pe_and (pe_cmpR op_ge (pv 3) (pe_op op_pow pe_int pe_int) (nomark _)) (pe_one (pe_cmpR op_lt (pv 1) (pe_callB (kLen K) (by rfl) T.n_len PySem.boot_len (pa_cons (pv 0) pa_nil)) (nomark _)))) pa_nil))) (pa_cons (pv 4) pa_nil))))))))), ?_⟩
  have rq : ∀ {i : Int} {H : Hp}, Rp K H (.int i) (.int i) := rp_int.mpr rfl
  have se : ∀ {H1 : Hp} {o2 o3 o4 : Option V}, Wx W0 H H1 → EvP (tVar 0) [some (.ref a), some (.int 0), o2, o3, o4] H1 (VP.r W0 K (ns.map .int)) := fun x => evp_var rfl ⟨a, _, rfl, ⟨(RdL.st x ⟨ha, fun z => z⟩).1, fun z => z⟩, Rps.ints ns⟩
  refine set0 K (d := .int 0) ev_int fun v2 H1 x1 r2 => ?_
  obtain rfl := rp_int.mp r2
  refine ifs_int (K := K) (c0 := 0) (i := 2) (et_of (ev_opB0 (ev_var rfl rq) (ev_len (es_of_r (se x1))))) (fun hb => ?_) (fun hb => et_of (ev_eq0L (se x1))) (fun hb hb2 => ?_) rfl fun c H2 x2 => ?_
  · rw [decide_eq_true_eq, List.length_map] at hb
    have hl : 0 < ns.length := by omega
    exact ⟨ns[0], ev_ixL (j := 0) (es_of_r (se x1)) (ev_var rfl rq) (ixN_nat (j := 0) (by rw [List.length_map]; exact hl)) (by rw [List.getElem?_map, List.getElem?_eq_getElem hl]; rfl)⟩
  · rw [decide_eq_false_iff_not, List.length_map] at hb
    rw [if_pos rfl, Bool.not_eq_true', decide_eq_false_iff_not, List.length_map] at hb2
    omega
  have x02 := x1.trans x2
  refine set0 K (ev_max2 (ev_int1 (ev_var rfl rq)) (ev_int1 (ev_opI0 (ev_neg ev_int) (ev_var rfl rq)))) fun v3 H3 x3 r3 => ?_
  have hbig : 0 ≤ (if (-1 - c) > c then (-1 - c) else c) := by
    by_cases h : (-1 - c) > c
    · rw [if_pos h]; omega
    · rw [if_neg h]; omega
  obtain rfl := rp_int.mp r3
  generalize (if (-1 - c) > c then (-1 - c) else c) = big at hbig
  have x03 := x02.trans x3
  refine set0 K (ev_opI (ev_int1 (ev_opI (ev_opI0 (ev_opI0 (ev_opI0 (ev_opI (ev_int1 (ev_var rfl rq)) ev_int (by decide)) (ev_opI (ev_opI ev_int (ev_var (i := 1) rfl rq) (.inl ⟨by decide, by decide⟩)) (ev_var (i := 1) rfl rq) (.inr ⟨by decide, by decide⟩))) (ev_opI ev_int (ev_var (i := 1) rfl rq) (.inl ⟨by decide, by decide⟩))) ev_int) ev_int (.inr ⟨by decide, by decide⟩))) ev_int (by decide)) fun v4 H4 x4 r4 => ?_
  obtain rfl := rp_int.mp r4
  have hm := Int.emod_nonneg ((big % 2147483629 + 7919 * 0 * 0 + 31 * 0 + 17) * 48271) (show (2147483647 : Int) ≠ 0 by decide)
  have hm2 := Int.emod_lt_of_pos ((big % 2147483629 + 7919 * 0 * 0 + 31 * 0 + 17) * 48271) (show (0 : Int) < 2147483647 by decide)
  generalize ((big % 2147483629 + 7919 * 0 * 0 + 31 * 0 + 17) * 48271) % 2147483647 = st at hm hm2
  have x04 := x03.trans x4
  have hfac : ∀ b : Bool, 0 ≤ (if b = true then (1 : Int) else 0) ∧ (if b = true then (1 : Int) else 0) ≤ 1 := fun b => by cases b <;> decide
  refine lst_run (K := K) (W := W0) (ds := [_, _]) trivial (ea_cons (ev_opI (ev_var rfl rq) (ev_int1b (ev_and (ev_opB0 (ev_var rfl rq) (ev_opI ev_int ev_int (by unfold CPow; decide +kernel))) fun _ => ev_opB0 (ev_var rfl rq) (ev_len (es_of_r (se x04))))) (.inr ⟨by have := hfac (decide (big ≥ (10 : Int) ^ (18 : Int).toNat) && decide ((0 : Int) < ((ns.map PyData.int).length : Nat))); omega, by have := hfac (decide (big ≥ (10 : Int) ^ (18 : Int).toNat) && decide ((0 : Int) < ((ns.map PyData.int).length : Nat))); omega⟩)) (ea_cons (ev_var rfl rq) ea_nil)) (by simp) fun p H5 xs x5 hn hp hs => ?_
  obtain ⟨y1, y2, exs, q1, q2⟩ := rps2 hs
  rw [rp_int.mp q1, rp_int.mp q2] at exs
  subst exs
  have hf := hfac (decide (big ≥ (10 : Int) ^ (18 : Int).toNat) && decide ((0 : Int) < ((ns.map PyData.int).length : Nat)))
  refine kk p H5 _ _ (fun b o q => (x04.trans x5).2.2 b o q fun z => z) (x04.fresh hn) hp ⟨?_, hm, hm2⟩
  exact Int.mul_nonneg hbig hf.1
end
end Fd
-- J10
namespace Fd
open PySem PySem.Spec PyProof.Rows L2 LamX NdefX
/-! ### the four of twenty -/
abbrev natD (i : Nat) : PyData := .int (i : Int)
def blockC (a b c : Nat) : List PyData := ((List.range 20).drop (c + 1)).map fun d => rowD [(a : Int), (b : Int), (c : Int), ((d : Nat) : Int)] 1
def blockB (a b : Nat) : List PyData := ((List.range 20).drop (b + 1)).flatMap (blockC a b)
def blockA (a : Nat) : List PyData := ((List.range 20).drop (a + 1)).flatMap (blockB a)
def rows4 : List PyData := (List.range 20).flatMap blockA
theorem take_flat {α β : Type} (f : α → List β) (l : List α) (k : Nat) (h : k < l.length) : (l.take (k + 1)).flatMap f = (l.take k).flatMap f ++ f l[k] := by
  rw [List.take_add_one, List.getElem?_eq_getElem h, List.flatMap_append]
  simp
theorem rows4_len : rows4.length = 4845 := by decide +kernel
theorem blockA_len : (List.range 20).all (fun a => decide ((blockA a).length ≤ 1000)) = true := by decide +kernel
def ns20 : List Int := (List.range 20).map fun (i : Nat) => (i : Int)
theorem ns20_data : ns20.map PyData.int = (List.range 20).map natD := by unfold ns20; rw [List.map_map]; rfl
theorem rg20 : rgV 0 20 = ns20.map V.int := by
  unfold rgV ns20
  rw [List.map_map]
  refine List.map_congr_left fun i _ => ?_
  show V.int (0 + (i : Int)) = V.int (i : Int)
  rw [Int.zero_add]
/-- the rows made so far stand at p -/
def Acc (K : PySem.W.Frag) (p : Addr) (H : Hp) (R : List PyData) : Prop := ∃ xs, H p = some (.lst xs) ∧ Rps K H R xs
section
variable {TT : List NTab} {j p q : Addr} {K : PySem.W.Frag} {H H' : Hp} {vw : V} {D : Ends} {R : List PyData} {a b c : Nat} {o4 o5 o6 : Option V}
abbrev W4 (TT : List NTab) (j p : Addr) : Wd := WL (GW TT j) [p]
theorem acc_gw (x : Wx (GW TT j) H H') (np : ¬ (GW TT j).M p) (h : Acc K p H R) : Acc K p H' R := by
  obtain ⟨xs, h1, h2⟩ := h
  exact ⟨xs, x.2.2 _ _ h1 np, x.rps h2⟩
theorem sl20 {i c : Nat} {W : Wd} {σ : L2.St} (e2 : σ[2]? = some (some (.ref q))) (ec : σ[i]? = some (some (.int (c : Nat)))) (hq : H q = some (.lst (ns20.map V.int))) (nq : ¬ W.M q) : EvP (tSl (rSlL K) (tVar 2) (tPart (tOp (rI0 fun i j => V.int (i + j)) (tVar i) (tC (V.int 1)))) tNoPart) σ H (VP.r W K (((List.range 20).drop (c + 1)).map natD)) := by
  have h : EvP (W := W) (tVar 2) σ H (VP.r W K (ns20.map .int)) := evp_var e2 ⟨q, _, rfl, ⟨SqL.of hq, nq⟩, Rps.ints ns20⟩
  have := el_slL h (eo_some (K := K) (ev_opI0 (g := fun i j => i + j) (j := 1) (ev_var ec (rp_int.mpr rfl)) ev_int)) eo_none
  rw [show ((c : Int) + 1) = ((c + 1 : Nat) : Int) by omega, cutD_from, ns20_data, ← List.map_drop] at this
  exact er_of_l this
theorem rows_C (g : (W4 TT j p).J H) (np : ¬ (GW TT j).M p) (hq : H q = some (.lst (ns20.map V.int))) (nq : ¬ (W4 TT j p).M q) (h : Acc K p H R) (hR : R.length ≤ 1000000)
    (k : ∀ H', Wx (W4 TT j p) H H' → Acc K p H' (R ++ blockC a b c) → D.nx [some (.ref j), some vw, some (.ref q), some (.ref p), some (.int (a : Nat)), some (.int (b : Nat)), some (.int (c : Nat)), none, none] H') :
    tDrop (tBM K "list" rExtend (tVar 3) (tCons (tLc (iList K (tSl (rSlL K) (tVar 2) (tPart (tOp (rI0 fun i j => V.int (i + j)) (tVar 6) (tC (V.int 1)))) tNoPart)) (gName 7) tYes (tTup (tCons (tTup (tCons (tVar 4) (tCons (tVar 5) (tCons (tVar 6) (tCons (tVar 7) tNil))))) (tCons (tC (V.int 1)) tNil))) (List.map (fun x => x.snd) [(Str.ofString "d", 7)])) tNil)) D
      [some (.ref j), some vw, some (.ref q), some (.ref p), some (.int (a : Nat)), some (.int (b : Nat)), some (.int (c : Nat)), none, none] H := by
  obtain ⟨xs, hp, hr⟩ := h
  have nq' : ¬ (GW TT j).M q := fun z => nq (.inl z)
  refine ⟨.ref p, rfl, .inl ⟨rfl, xs, SqL.of hp⟩, ?_⟩
  have hlc : EvL (GW TT j) K (tLc (iList K (tSl (rSlL K) (tVar 2) (tPart (tOp (rI0 fun i j => V.int (i + j)) (tVar 6) (tC (V.int 1)))) tNoPart)) (gName 7) tYes (tTup (tCons (tTup (tCons (tVar 4) (tCons (tVar 5) (tCons (tVar 6) (tCons (tVar 7) tNil))))) (tCons (tC (V.int 1)) tNil))) [7]) [some (.ref j), some vw, some (.ref q), some (.ref p), some (.int (a : Nat)), some (.int (b : Nat)), some (.int (c : Nat)), none, none] H ((((List.range 20).drop (c + 1)).map natD).map fun d => .tuple [.tuple [.int (a : Nat), .int (b : Nat), .int (c : Nat), d], .int 1]) :=
    el_map (src_list (sl20 rfl rfl hq nq')) (by rw [List.length_map, List.length_drop, List.length_range]; omega) fun d _ => lcs_name (fun H1 x x1 r => ev_tup (ea_cons (ev_tup (ea_cons (ev_var rfl (rp_int.mpr rfl)) (ea_cons (ev_var rfl (rp_int.mpr rfl)) (ea_cons (ev_var rfl (rp_int.mpr rfl)) (ea_cons (ev_var rfl r) ea_nil)))) (by simp)) (ea_cons ev_int ea_nil)) (by simp)) (fun _ => rfl)
  rw [List.map_map] at hlc
  refine hlc H (Wx.refl g.1) _ fun v H2 x2 ⟨r, ys, ev, hr2, nr, hrs⟩ => ?_
  have hp2 := x2.2.2 _ _ hp np
  have e1 := hr.len
  have e2 := hrs.len
  rw [List.length_map, List.length_drop, List.length_range] at e2
  have w2 := wl_of x2 g.2 (ps := [p]) fun z hz => by rw [List.mem_singleton.mp hz]; exact np
  have w3 := w2.trans (wl_upd (ys := xs ++ ys) w2.2.1 (List.mem_cons_self ..) np)
  have kt : KeepT H2 (upd H2 p (.lst (xs ++ ys))) := KeepT.mut hp2 rfl
  exact ⟨p, r, xs, ys, rfl, by rw [ev], hp2, hr2, sz_of (by omega), k _ w3 ⟨xs ++ ys, upd_same, (Rps.mono kt _ _ (x2.rps hr)).app (Rps.mono kt _ _ hrs)⟩⟩
def tRowsC (K : PySem.W.Frag) : TS := tDrop (tBM K "list" rExtend (tVar 3) (tCons (tLc (iList K (tSl (rSlL K) (tVar 2) (tPart (tOp (rI0 fun i j => V.int (i + j)) (tVar 6) (tC (V.int 1)))) tNoPart)) (gName 7) tYes (tTup (tCons (tTup (tCons (tVar 4) (tCons (tVar 5) (tCons (tVar 6) (tCons (tVar 7) tNil))))) (tCons (tC (V.int 1)) tNil))) (List.map (fun x => x.snd) [(Str.ofString "d", 7)])) tNil))
def tRowsB (K : PySem.W.Frag) : TS := tFor (iList K (tSl (rSlL K) (tVar 2) (tPart (tOp (rI0 fun i j => V.int (i + j)) (tVar 5) (tC (V.int 1)))) tNoPart)) (gName 6) (tRowsC K)
def tRowsA (K : PySem.W.Frag) : TS := tFor (iList K (tSl (rSlL K) (tVar 2) (tPart (tOp (rI0 fun i j => V.int (i + j)) (tVar 4) (tC (V.int 1)))) tNoPart)) (gName 5) (tRowsB K)
theorem drop_at20 {c k : Nat} (hk : k < ((List.range 20).drop (c + 1)).length) : ((List.range 20).drop (c + 1))[k] = c + 1 + k := by
  rw [List.getElem_drop, List.getElem_range]
theorem dropD {c k : Nat} {d : PyData} (h : (((List.range 20).drop (c + 1)).map natD)[k]? = some d) : ∃ hk : k < ((List.range 20).drop (c + 1)).length, d = natD (((List.range 20).drop (c + 1))[k]) := by
  have hk : k < ((List.range 20).drop (c + 1)).length := by
    have := (List.getElem?_eq_some_iff.mp h).1
    rw [List.length_map] at this
    exact this
  refine ⟨hk, ?_⟩
  rw [List.getElem?_map, List.getElem?_eq_getElem hk] at h
  exact (Option.some.inj h).symm
theorem take_all {α : Type} {l : List α} {n : Nat} (h : n = l.length) : l.take n = l := by rw [h, List.take_length]
theorem flat_len {f : Nat → List PyData} {m : Nat} (hf : ∀ x, (f x).length ≤ m) : ∀ l : List Nat, (l.flatMap f).length ≤ m * l.length
  | [] => by simp
  | x :: l => by
    have := flat_len hf l
    have h1 := hf x
    rw [List.flatMap_cons, List.length_append, List.length_cons, Nat.mul_succ]
    omega
theorem blockC_len (a b c : Nat) : (blockC a b c).length ≤ 20 := by
  unfold blockC
  rw [List.length_map, List.length_drop, List.length_range]
  omega
theorem blockB_len (a b : Nat) : (blockB a b).length ≤ 400 := by
  have := flat_len (blockC_len a b) ((List.range 20).drop (b + 1))
  rw [List.length_drop, List.length_range] at this
  unfold blockB
  omega
theorem take20 {x i : Nat} : (((List.range 20).drop x).take i).length ≤ 20 := by
  rw [List.length_take, List.length_drop, List.length_range]
  omega
/-- a world in which the list at p is what it is -/
def WP (W : Wd) (p : Addr) (xs : List V) : Wd := ⟨fun b => W.M b ∨ b = p, fun H => W.J H ∧ H p = some (.lst xs), fun H H' ⟨g, l⟩ h => ⟨W.st H H' g fun b o e n => h b o e fun z => .inl (n z), h p _ l fun _ => .inr rfl⟩, fun H b ⟨g, l⟩ m => by
    rcases m with m | m
    · exact W.nm H b g m
    · rw [m]
      exact ⟨_, l, fun xs z => (by cases z), fun ob u z => (by cases z)⟩⟩
theorem wp_wl {W : Wd} {xs : List V} (x : Wx (WP W p xs) H H') : Wx (WL W [p]) H H' := ⟨⟨x.1.1, fun z hz => ⟨xs, by rw [List.mem_singleton.mp hz]; exact x.1.2⟩⟩, ⟨x.2.1.1, fun z hz => ⟨xs, by rw [List.mem_singleton.mp hz]; exact x.2.1.2⟩⟩, fun b o h n => x.2.2 b o h fun z => n (z.elim .inl fun z => .inr (by rw [z]; exact List.mem_cons_self ..))⟩
theorem for_rows {ta : TE} {g : TG} {tb : TS} {σ : L2.St} {xs0 : List V} {ds : List PyData} (gj : (W4 TT j p).J H) (hp : H p = some (.lst xs0)) (hs : EvP ta σ H (VP.r (WP (GW TT j) p xs0) K ds)) (Inv : Nat → L2.St → Hp → Prop) (h0 : ∀ H1, Wx (WP (GW TT j) p xs0) H H1 → Inv 0 σ H1)
    (hst : ∀ i d σ1 H1 x (N : L2.St → Hp → Prop), ds[i]? = some d → Wx (W4 TT j p) H H1 → Inv i σ1 H1 → Rp K H1 d x → (∀ σ' H', Wx (W4 TT j p) H1 H' → Inv (i + 1) σ' H' → N σ' H') → g x σ1 H1 fun σ2 H3 => tb { D with nx := N, ct := N, bk := D.nx } σ2 H3)
    (hd : ∀ σ' H', Wx (W4 TT j p) H H' → Inv ds.length σ' H' → D.nx σ' H') : tFor (iList K ta) g tb D σ H := by
  refine hs.run (W := WP (GW TT j) p xs0) ⟨gj.1, hp⟩ fun v H2 x2 ⟨r, xs, ev, ⟨hr, nr⟩, hrs⟩ => ⟨r, ev, ⟨xs, hr⟩, ?_⟩
  have y2 := wp_wl x2
  have rd : RdL (W4 TT j p) K H2 r xs := ⟨hr, fun z => nr (z.elim .inl fun z => .inr (List.mem_singleton.mp z))⟩
  have hn := hrs.len
  have G : Goes (W4 TT j p) K (Itl K r) H2 ds := Goes.of (hn ▸ walk_list (K := K) (a := r) (xs := xs)) (fun H x => (rd.st x).1) fun i H x H' hi y q => by
    obtain ⟨e1, e2⟩ := q
    subst e1
    exact ⟨Wx.refl y.2.1, yAt (y.rps hrs) e2⟩
  have W1 : Walk (Itl K r) ds.length (fun H => Wx (W4 TT j p) H2 H) (fun i H x H' => H' = H ∧ ∀ d, ds[i]? = some d → Rp K H' d x) := by
    have w := (hn ▸ walk_list (K := K) (a := r) (xs := xs) : Walk (Itl K r) ds.length _ _)
    exact ⟨fun i H hi x => w.goes i H hi (rd.st x).1, fun H x => w.stops H (rd.st x).1, fun i H x H' hi y q => by
      obtain ⟨e1, e2⟩ := w.yields i H x H' hi (rd.st y).1 q
      subst e1
      exact ⟨rfl, yAt (y.rps hrs) e2⟩⟩
  exact for_it (g := g) (tb := tb) (D := D) (σ := σ) (H := H2) W1 (fun i σ' H' => Wx (W4 TT j p) H2 H' ∧ Inv i σ' H') ⟨Wx.refl y2.2.1, h0 H2 x2⟩ (fun i σ' H' _ h => h.1)
      (fun i x σ' H' H3 hi ⟨y1, hI⟩ ⟨e3, hx⟩ => by
        subst e3
        exact hst i ds[i] σ' H3 x _ (List.getElem?_eq_getElem hi) (y2.trans y1) hI (hx _ (List.getElem?_eq_getElem hi)) fun σ2 H4 y4 h4 => ⟨y1.trans y4, h4⟩)
      fun σ' H' ⟨y1, hI⟩ => hd σ' H' (y2.trans y1) hI
theorem rows_B (g : (W4 TT j p).J H) (np : ¬ (GW TT j).M p) (hq : H q = some (.lst (ns20.map V.int))) (nq : ¬ (W4 TT j p).M q) (h : Acc K p H R) (hR : R.length ≤ 900000)
    (k : ∀ o6 H', Wx (W4 TT j p) H H' → Acc K p H' (R ++ blockB a b) → D.nx [some (.ref j), some vw, some (.ref q), some (.ref p), some (.int (a : Nat)), some (.int (b : Nat)), o6, none, none] H') :
    tRowsB K D [some (.ref j), some vw, some (.ref q), some (.ref p), some (.int (a : Nat)), some (.int (b : Nat)), o6, none, none] H := by
  obtain ⟨xs0, hp, hr⟩ := h
  have nqp : ∀ xs, ¬ (WP (GW TT j) p xs).M q := fun xs z => nq (z.elim .inl fun z => .inr (by rw [z]; exact List.mem_cons_self ..))
  refine for_rows (K := K) (ds := ((List.range 20).drop (b + 1)).map natD) g hp (sl20 rfl rfl hq (nqp xs0)) (fun i σ H1 => ∃ o6, σ = [some (.ref j), some vw, some (.ref q), some (.ref p), some (.int (a : Nat)), some (.int (b : Nat)), o6, none, none] ∧ Acc K p H1 (R ++ (((List.range 20).drop (b + 1)).take i).flatMap (blockC a b))) (fun H1 x1 => ⟨o6, rfl, xs0, x1.2.1.2, ?_⟩) (fun i d σ1 H1 x N hd x1 ⟨o6', e1, hA⟩ hx hN => ?_) fun σ1 H1 x1 ⟨o6', e1, hA⟩ => ?_
  · rw [List.take_zero, List.flatMap_nil, List.append_nil]
    exact x1.rps hr
  · subst e1
    obtain ⟨hk, ed⟩ := dropD hd
    subst ed
    obtain rfl := rp_int.mp hx
    refine rows_C (a := a) (b := b) (c := ((List.range 20).drop (b + 1))[i]) x1.2.1 np (x1.2.2 _ _ hq nq) nq hA (by have h1 := flat_len (blockC_len a b) (((List.range 20).drop (b + 1)).take i); have h2 := take20 (x := b + 1) (i := i); rw [List.length_append]; omega) fun H2 x2 hA2 => hN _ H2 x2 ⟨_, rfl, ?_⟩
    rw [List.append_assoc, ← take_flat _ _ _ hk] at hA2
    exact hA2
  · subst e1
    rw [List.length_map, List.take_length] at hA
    exact k _ _ x1 hA
theorem rows_A (g : (W4 TT j p).J H) (np : ¬ (GW TT j).M p) (hq : H q = some (.lst (ns20.map V.int))) (nq : ¬ (W4 TT j p).M q) (h : Acc K p H R) (hR : R.length ≤ 500000)
    (k : ∀ o5 o6 H', Wx (W4 TT j p) H H' → Acc K p H' (R ++ blockA a) → D.nx [some (.ref j), some vw, some (.ref q), some (.ref p), some (.int (a : Nat)), o5, o6, none, none] H') :
    tRowsA K D [some (.ref j), some vw, some (.ref q), some (.ref p), some (.int (a : Nat)), o5, o6, none, none] H := by
  obtain ⟨xs0, hp, hr⟩ := h
  have nqp : ∀ xs, ¬ (WP (GW TT j) p xs).M q := fun xs z => nq (z.elim .inl fun z => .inr (by rw [z]; exact List.mem_cons_self ..))
  refine for_rows (K := K) (ds := ((List.range 20).drop (a + 1)).map natD) g hp (sl20 rfl rfl hq (nqp xs0)) (fun i σ H1 => ∃ o5 o6, σ = [some (.ref j), some vw, some (.ref q), some (.ref p), some (.int (a : Nat)), o5, o6, none, none] ∧ Acc K p H1 (R ++ (((List.range 20).drop (a + 1)).take i).flatMap (blockB a))) (fun H1 x1 => ⟨o5, o6, rfl, xs0, x1.2.1.2, ?_⟩) (fun i d σ1 H1 x N hd x1 ⟨o5', o6', e1, hA⟩ hx hN => ?_) fun σ1 H1 x1 ⟨o5', o6', e1, hA⟩ => ?_
  · rw [List.take_zero, List.flatMap_nil, List.append_nil]
    exact x1.rps hr
  · subst e1
    obtain ⟨hk, ed⟩ := dropD hd
    subst ed
    obtain rfl := rp_int.mp hx
    refine rows_B (a := a) (b := ((List.range 20).drop (a + 1))[i]) x1.2.1 np (x1.2.2 _ _ hq nq) nq hA (by have h1 := flat_len (blockB_len a) (((List.range 20).drop (a + 1)).take i); have h2 := take20 (x := a + 1) (i := i); rw [List.length_append]; omega) fun o6'' H2 x2 hA2 => hN _ H2 x2 ⟨_, _, rfl, ?_⟩
    rw [List.append_assoc, ← take_flat _ _ _ hk] at hA2
    exact hA2
  · subst e1
    rw [List.length_map, List.take_length] at hA
    exact k _ _ _ x1 hA
theorem blockA_len' (a : Nat) : (blockA a).length ≤ 8000 := by
  have := flat_len (blockB_len a) ((List.range 20).drop (a + 1))
  rw [List.length_drop, List.length_range] at this
  unfold blockA
  omega
theorem rows_All (g : (W4 TT j p).J H) (np : ¬ (GW TT j).M p) (hq : H q = some (.lst (ns20.map V.int))) (nq : ¬ (W4 TT j p).M q) (hp : H p = some (.lst []))
    (k : ∀ o4 o5 o6 H', Wx (W4 TT j p) H H' → Acc K p H' rows4 → D.nx [some (.ref j), some vw, some (.ref q), some (.ref p), o4, o5, o6, none, none] H') :
    tFor (iList K (tVar 2)) (gName 4) (tRowsA K) D [some (.ref j), some vw, some (.ref q), some (.ref p), none, none, none, none, none] H := by
  have nqp : ¬ (WP (GW TT j) p []).M q := fun z => nq (z.elim .inl fun z => .inr (by rw [z]; exact List.mem_cons_self ..))
  refine for_rows (K := K) (ds := (List.range 20).map natD) g hp (by rw [← ns20_data]; exact evp_var rfl ⟨q, _, rfl, ⟨SqL.of hq, nqp⟩, Rps.ints ns20⟩) (fun i σ H1 => ∃ o4 o5 o6, σ = [some (.ref j), some vw, some (.ref q), some (.ref p), o4, o5, o6, none, none] ∧ Acc K p H1 (((List.range 20).take i).flatMap blockA)) (fun H1 x1 => ⟨none, none, none, rfl, [], x1.2.1.2, rps_nil.mpr rfl⟩) (fun i d σ1 H1 x N hd x1 ⟨o4', o5', o6', e1, hA⟩ hx hN => ?_) fun σ1 H1 x1 ⟨o4', o5', o6', e1, hA⟩ => ?_
  · subst e1
    have hk : i < (List.range 20).length := by
      have := (List.getElem?_eq_some_iff.mp hd).1
      rw [List.length_map] at this
      exact this
    rw [List.getElem?_map, List.getElem?_eq_getElem hk] at hd
    cases hd
    obtain rfl := rp_int.mp hx
    refine rows_A (a := (List.range 20)[i]) x1.2.1 np (x1.2.2 _ _ hq nq) nq hA (by have h1 := flat_len blockA_len' ((List.range 20).take i); rw [List.length_take, List.length_range] at h1; omega) fun o5'' o6'' H2 x2 hA2 => hN _ H2 x2 ⟨_, _, _, rfl, ?_⟩
    rw [← take_flat _ _ _ hk] at hA2
    exact hA2
  · subst e1
    rw [List.length_map, List.take_length] at hA
    exact k _ _ _ _ x1 hA
end
/-! ### the greatest papers and those beyond -/
def isMost (d : PyData) : Prop := ∃ m m' : PyData, d = .tuple [m, m'] ∧ paperB m = true ∧ (paperW m).length ≤ 400000 ∧ txOk m' ∧ paperB m' = false ∧ (paperW m').length ≤ 400000
theorem paperW_len {w : Str} {ds : List PyData} (hw : ¬ w = tCrowd) (hp : ∀ d ∈ ds, partB w d = true) (h7 : w.length ≤ 7) {m : Nat} (hm : ∀ d ∈ ds, (wordFor w d).length ≤ m) (hm7 : 7 ≤ m) : (paperW (.tuple [.str w, .tuple ds])).length ≤ (m + 1) * (ds.length + 1) := by
  rw [paperW_rest hw]
  refine Nat.le_trans (join_le 32 m _ fun x hx => ?_) (by rw [List.length_cons, List.length_map]; exact Nat.le_refl _)
  rcases List.mem_cons.mp hx with e | e
  · subst e
    have : w.cps.toList.length = w.length := by rw [← S_len, S_tl]
    omega
  · obtain ⟨c, hc, e⟩ := List.mem_map.mp e
    subst e
    exact hm c hc
theorem rest_most {w : Str} {ds ds' : List PyData} (hw : ¬ w = tCrowd) (hr : restB w ds = true) (hr' : restB w ds' = false) (hp : ∀ d ∈ ds', partB w d = true) (h7 : w.length ≤ 7) (hl : ds'.length ≤ 3500) {m : Nat} (hm : ∀ d, partB w d = true → d ∈ ds ∨ d ∈ ds' → (wordFor w d).length ≤ m) (hm7 : 7 ≤ m) (hs : (m + 1) * (ds.length + 1) ≤ 400000) (hs' : (m + 1) * (ds'.length + 1) ≤ 400000) :
    isMost (.tuple [.tuple [.str w, .tuple ds], .tuple [.str w, .tuple ds']]) := by
  have hq := (rest_part hr).1
  refine ⟨_, _, rfl, by rw [paper_rest hw]; exact hr, Nat.le_trans (paperW_len hw hq h7 (fun d hd => hm d (hq d hd) (.inl hd)) hm7) hs, .inr ⟨w, ds', rfl, hw, hp, hl, h7⟩, by rw [paper_rest hw]; exact hr', Nat.le_trans (paperW_len hw hp h7 (fun d hd => hm d (hp d hd) (.inr hd)) hm7) hs'⟩
theorem most_plan : isMost (.tuple [.tuple [.str tPlan, .tuple (List.replicate 159 (.tuple [.int 1, .int 2]))], .tuple [.str tPlan, .tuple (List.replicate 160 (.tuple [.int 1, .int 2]))]]) := by
  refine rest_most (by decide +kernel) (by decide +kernel) (by decide +kernel) (fun d hd => ?_) (by decide +kernel) (by decide) (m := 168) (fun d h _ => (okB_part h).2) (by decide) (by decide +kernel) (by decide +kernel)
  rw [List.eq_of_mem_replicate hd]
  decide +kernel
theorem most_vine : isMost (.tuple [.tuple [.str tVine, .tuple (List.replicate 400 (.int 7))], .tuple [.str tVine, .tuple (List.replicate 401 (.int 7))]]) := by
  refine rest_most (by decide +kernel) (by decide +kernel) (by decide +kernel) (fun d hd => ?_) (by decide +kernel) (by decide) (m := 168) (fun d h _ => (okB_part h).2) (by decide) (by decide +kernel) (by decide +kernel)
  rw [List.eq_of_mem_replicate hd]
  decide +kernel
def tie1 : PyData → PyData := fun d => match d with | .int i => .tuple [.int i, .int (80 - i)] | _ => .none
def tie2 : PyData → PyData := fun d => .tuple [d, .int 80]
theorem most_match : isMost (.tuple [.tuple [.str tMatch, .tuple ((rngD 0 80).map tie1)], .tuple [.str tMatch, .tuple ((rngD 0 81).map tie2)]]) := by
  have h : ((rngD 0 81).map tie2).all (partB tMatch) = true := by decide +kernel
  exact rest_most (by decide +kernel) (by decide +kernel) (by decide +kernel) (fun d hd => List.all_eq_true.mp h d hd) (by decide +kernel) (by decide +kernel) (m := 168) (fun d h _ => (okB_part h).2) (by decide) (by decide +kernel) (by decide +kernel)
def rg (n : Nat) : List Int := (List.range n).map fun (i : Nat) => 0 + (i : Int)
theorem rg_rgV (n : Nat) : rgV 0 (n : Int) = (rg n).map V.int := by
  unfold rgV rg
  rw [List.map_map, show ((n : Int) - 0).toNat = n by omega]
  rfl
theorem most_crowd : isMost (.tuple [.tuple [.str tCrowd, .int 1, .tuple ((rg 80).map .int)], .tuple [.str tCrowd, .int 1, .tuple ((rg 81).map .int)]]) := by
  have hg : ∀ n, n ≤ 81 → ∀ i ∈ rg n, gr i := fun n hn i hi => by
    unfold rg at hi
    obtain ⟨k, hk, e⟩ := List.mem_map.mp hi
    have := List.mem_range.mp hk
    exact ⟨by omega, by unfold HI; omega⟩
  have hl : ∀ n, (rg n).length = n := fun n => by unfold rg; rw [List.length_map, List.length_range]
  have hw : ∀ n, n ≤ 81 → (paperW (.tuple [.str tCrowd, .int 1, .tuple ((rg n).map .int)])).length ≤ 400000 := fun n hn => by
    rw [paperW_crowd]
    refine Nat.le_trans (join_le 32 2000 _ fun x hx => ?_) (by simp)
    simp only [List.mem_cons, List.not_mem_nil, or_false] at hx
    rcases hx with e | e | e
    · subst e; decide +kernel
    · subst e
      exact Nat.le_trans (numW_len ⟨by decide, by decide⟩) (by decide)
    · subst e
      have := listW_len (hg n hn)
      rw [hl] at this
      omega
  exact ⟨_, _, rfl, by decide +kernel, hw 80 (by decide), .inl ⟨1, rg 81, rfl, ⟨by decide, by decide⟩, hg 81 (by decide), by rw [hl]; decide⟩, by decide +kernel, hw 81 (by decide)⟩
def smallB : PyData → Bool
  | .tuple [.tuple [.int a, .int b, .int c, .int d], .int n] => decide (0 ≤ a ∧ a ≤ 99) && decide (0 ≤ b ∧ b ≤ 99) && decide (0 ≤ c ∧ c ≤ 99) && decide (0 ≤ d ∧ d ≤ 99) && decide (0 ≤ n ∧ n ≤ 99)
  | _ => false
theorem rows_small : rows4.all smallB = true := by decide +kernel
theorem rows_part : rows4.all (partB tFill) = true := by decide +kernel
theorem rows_fit : restB tFill (rows4.take 3000) = true := by decide +kernel
theorem rows_not : restB tFill (rows4.take 3001) = false := by decide +kernel
theorem numW2 {n : Int} (h : 0 ≤ n ∧ n ≤ 99) : (numW n).length ≤ 2 := by
  have : ((List.range 100).all fun k => decide ((TL.numL k).length ≤ 2)) = true := by decide +kernel
  have h2 := List.all_eq_true.mp this n.toNat (List.mem_range.mpr (by omega))
  exact of_decide_eq_true h2
theorem small_len {d : PyData} (h : smallB d = true) : (wordFor tFill d).length ≤ 15 := by
  unfold smallB at h
  split at h
  · rename_i a b c d n
    simp only [Bool.and_eq_true, decide_eq_true_eq] at h
    obtain ⟨⟨⟨⟨h1, h2⟩, h3⟩, h4⟩, h5⟩ := h
    show (rowW ((intsOf ([a, b, c, d].map .int)).getD []) n).length ≤ 15
    rw [tup_ints]
    unfold rowW listW
    rw [List.length_append, List.length_append]
    have l1 := join_le 44 2 ([a, b, c, d].map numW) fun x hx => by
      obtain ⟨y, hy, e⟩ := List.mem_map.mp hx
      rw [← e]
      simp only [List.mem_cons, List.not_mem_nil, or_false] at hy
      rcases hy with e | e | e | e
      · rw [e]; exact numW2 h1
      · rw [e]; exact numW2 h2
      · rw [e]; exact numW2 h3
      · rw [e]; exact numW2 h4
    have l2 := numW2 h5
    simp only [List.length_map, List.length_cons, List.length_nil] at l1 ⊢
    omega
  · cases h
theorem most_fill : isMost (.tuple [.tuple [.str tFill, .tuple (rows4.take 3000)], .tuple [.str tFill, .tuple (rows4.take 3001)]]) := by
  have hl := rows4_len
  refine rest_most (by decide +kernel) rows_fit rows_not (fun d hd => List.all_eq_true.mp rows_part d (List.mem_of_mem_take hd)) (by decide +kernel) (by rw [List.length_take]; omega) (m := 15) (fun d h hm => small_len (List.all_eq_true.mp rows_small d (hm.elim List.mem_of_mem_take List.mem_of_mem_take))) (by decide) (by rw [List.length_take]; omega) (by rw [List.length_take]; omega)
section
variable {W : Wd} {K : PySem.W.Frag} {σ : L2.St} {H : Hp} {ta tb te : TE} {ds : List PyData}
theorem rps_rep {xs : List V} (r : Rps K H ds xs) : ∀ k : Nat, Rps K H (List.replicate k ds).flatten (List.replicate k xs).flatten
  | 0 => rps_nil.mpr rfl
  | k + 1 => by
    rw [List.replicate_succ, List.replicate_succ, List.flatten_cons, List.flatten_cons]
    exact r.app (rps_rep r k)
theorem rep_one (d : PyData) : ∀ n : Nat, (List.replicate n [d]).flatten = List.replicate n d
  | 0 => rfl
  | n + 1 => by rw [List.replicate_succ, List.flatten_cons, rep_one d n, List.replicate_succ]; rfl
theorem ev_repT1 {d : PyData} {n : Nat} (ha : Ev W K ta σ H (.tuple [d])) (h1 : 2 ≤ n) (h2 : n ≤ 1000) : Ev W K (tOp (rRepT K) ta (tC (.int (n : Int)))) σ H (.tuple (List.replicate n d)) := fun H1 x Q kq =>
  ha H1 x _ fun v H2 x2 hv => by
    obtain ⟨a, xs, e, s1, s2⟩ := rp_tup.mp hv
    have hl := s2.len
    refine ⟨a, (n : Int), xs, e, rfl, s1, (fun z => by rw [z] at hl; cases hl), by omega, by omega, by rw [hl]; simp, fun p hp => ?_⟩
    have e2 := rep_one d n
    refine kq _ _ (x2.trans (Wx.new x2.2.1 hp)) (rp_tup.mpr ⟨p, _, rfl, SqT.of upd_same, ?_⟩)
    rw [← e2]
    exact rps_rep ((Wx.new x2.2.1 hp).rps s2) n
theorem ev_tupRg {n : Nat} (h : n ≤ 1000) : Ev W K (tTupRg (tRg1 (tC (.int (n : Int))))) σ H (.tuple ((rg n).map .int)) := fun H1 x Q kq =>
  ⟨(n : Int), rfl, RgOk.of_le (by decide) (by omega) (by decide) (by omega), fun q hq => kq _ _ (Wx.new x.2.1 hq) (rp_tup.mpr ⟨q, _, rfl, SqT.of upd_same, by rw [rg_rgV]; exact Rps.ints _⟩)⟩
end
section
variable {P : Program} {w : World} {K : PySem.W.Frag} {mg : Str → Option Value} {base : Heap} {TT : List NTab}
theorem cd__law_most_of (T : Tx K mg) : Cd P w K mg base CX0 3 "_law_most_of" (SpJ K TT fun ds Pd => ds = [] ∧ Pd = isMost) := by
  refine cd_of (k := 3 - 1) T.d__law_most_of sc__law_most_of (fun _ _ _ _ _ _ us hl => match us, hl with | [_], _ => rfl) (SpJ.len fun ds r h => by obtain ⟨e, _⟩ := h; rw [e]; rfl) ?_
  intro f cdv A outer s H vs Q E hr ⟨j, us, ds, Pd, e, g, hs, ⟨e1, e2⟩, kk⟩
  subst e e1 e2
  obtain rfl := rps_nil.mp hs
  refine ⟨_, (pss_cons (ps_set (i := 1) sc__law_most_of.nd rfl (Or.inl rfl) (pe_d (cd__law_one (TT := TT) T) hr (by decide) (pa_cons (pv 0) (pa_cons (pe_lst (pa_cons pe_str (pa_cons pe_str (pa_cons pe_str (pa_cons pe_str (pa_cons pe_str pa_nil)))))) pa_nil))))
    (pss_cons (ps_if (pt_cmpR op_eq (pv 1) pe_str (nomark _))
      (pss_cons (ps_par (i := 2) (j := 3) rfl sc__law_most_of.nd rfl rfl (by decide) rfl rfl (pa_cons (pe_listRg rfl (by rfl) T.n_list (prg_1 (by rfl) T.n_range pe_int)) (pa_cons (pe_lst pa_nil) pa_nil)) (by rfl))
      (pss_cons (ps_for PassesOwn.never rfl (pi_list (pv 2)) (pg_name (i := 4) sc__law_most_of.nd rfl (Or.inr rfl))
        (pss_one (ps_for PassesOwn.never rfl (pi_list (pe_slice sl_list (pv 2) (po_some (pe_op op_add (pv 4) pe_int)) po_none)) (pg_name (i := 5) sc__law_most_of.nd rfl (Or.inr rfl))
          (pss_one (ps_for PassesOwn.never rfl (pi_list (pe_slice sl_list (pv 2) (po_some (pe_op op_add (pv 5) pe_int)) po_none)) (pg_name (i := 6) sc__law_most_of.nd rfl (Or.inr rfl))
            (pss_one (ps_expr (pe_bm PySem.F.plainAttrs_list PySem.F.slot_list_extend PySem.F.type_list_extend mt_extend (pv 3) (pa_cons (pe_lc (own := [("d", 7)]) rfl sc__law_most_of.nd (pi_list (pe_slice sl_list (pv 2) (po_some (pe_op op_add (pv 6) pe_int)) po_none)) (blkOk_by (N := N__law_most_of) (sc := defScope s__law_most_of) (by decide +kernel)) (fun _ _ _ _ _ => (pg_name (i := 7) sc__law_most_of.nd rfl (Or.inl rfl))) (fun _ _ _ _ _ => pts_nil) (fun _ _ _ _ _ => (pe_tup (pa_cons (pe_tup (pa_cons (pv 4) (pa_cons (pv 5) (pa_cons (pv 6) (pa_cons (pv 7) pa_nil))))) (pa_cons pe_int pa_nil))))) pa_nil)))))))))
      (pss_one (ps_ret (pe_tup (pa_cons (pe_tup (pa_cons (pv 1) (pa_cons (pe_callTy (kTupOf K) (by rfl) T.n_tuple (by decide +kernel) (pa_cons (pe_slice sl_list (pv 3) po_none (po_some pe_int)) pa_nil)) pa_nil))) (pa_cons (pe_tup (pa_cons (pv 1) (pa_cons (pe_callTy (kTupOf K) (by rfl) T.n_tuple (by decide +kernel) (pa_cons (pe_slice sl_list (pv 3) po_none (po_some pe_int)) pa_nil)) pa_nil))) pa_nil))))))) pss_nil)
    (pss_cons (ps_if (pt_cmpR op_eq (pv 1) pe_str (nomark _))
      (pss_one (ps_ret (pe_tup (pa_cons (pe_tup (pa_cons (pv 1) (pa_cons pe_int (pa_cons (pe_tupRg rfl (by rfl) T.n_tuple (prg_1 (by rfl) T.n_range pe_int)) pa_nil)))) (pa_cons (pe_tup (pa_cons (pv 1) (pa_cons pe_int (pa_cons (pe_tupRg rfl (by rfl) T.n_tuple (prg_1 (by rfl) T.n_range pe_int)) pa_nil)))) pa_nil))))) pss_nil)
    (pss_cons (ps_if (pt_cmpR op_eq (pv 1) pe_str (nomark _))
      (pss_one (ps_ret (pe_tup (pa_cons (pe_tup (pa_cons (pv 1) (pa_cons (pe_callTy (kTupOf K) (by rfl) T.n_tuple (by decide +kernel) (pa_cons (pe_lc (own := [("at", 8)]) rfl sc__law_most_of.nd (pi_range1 (by rfl) T.n_range (pa_cons pe_int pa_nil)) (blkOk_by (N := N__law_most_of) (sc := defScope s__law_most_of) (by decide +kernel)) (fun _ _ _ _ _ => (pg_name (i := 8) sc__law_most_of.nd rfl (Or.inl rfl))) (fun _ _ _ _ _ => pts_nil) (fun _ _ _ _ _ => (pe_tup (pa_cons (pv 8) (pa_cons (pe_op op_sub pe_int (pv 8)) pa_nil))))) pa_nil)) pa_nil))) (pa_cons (pe_tup (pa_cons (pv 1) (pa_cons (pe_callTy (kTupOf K) (by rfl) T.n_tuple (by decide +kernel) (pa_cons (pe_lc (own := [("at", 8)]) rfl sc__law_most_of.nd (pi_range1 (by rfl) T.n_range (pa_cons pe_int pa_nil)) (blkOk_by (N := N__law_most_of) (sc := defScope s__law_most_of) (by decide +kernel)) (fun _ _ _ _ _ => (pg_name (i := 8) sc__law_most_of.nd rfl (Or.inl rfl))) (fun _ _ _ _ _ => pts_nil) (fun _ _ _ _ _ => (pe_tup (pa_cons (pv 8) (pa_cons pe_int pa_nil))))) pa_nil)) pa_nil))) pa_nil))))) pss_nil)
    (pss_cons (ps_if (pt_cmpR op_eq (pv 1) pe_str (nomark _))
      (pss_one (ps_ret (pe_tup (pa_cons (pe_tup (pa_cons (pv 1) (pa_cons (pe_op op_repT (pe_tup (pa_cons (pe_tup (pa_cons pe_int (pa_cons pe_int pa_nil))) pa_nil)) pe_int) pa_nil))) (pa_cons (pe_tup (pa_cons (pv 1) (pa_cons (pe_op op_repT (pe_tup (pa_cons (pe_tup (pa_cons pe_int (pa_cons pe_int pa_nil))) pa_nil)) pe_int) pa_nil))) pa_nil))))) pss_nil)
    (pss_one (ps_ret (pe_tup (pa_cons (pe_tup (pa_cons (pv 1) (pa_cons (pe_op op_repT (pe_tup (pa_cons pe_int pa_nil)) pe_int) pa_nil))) (pa_cons (pe_tup (pa_cons (pv 1) (pa_cons (pe_op op_repT (pe_tup (pa_cons pe_int pa_nil)) pe_int) pa_nil))) pa_nil)))))))))), ?_⟩
  refine set_then (W := GW TT j) (p := VP.ex _ K (fun d => d ∈ [.str tFill, .str tCrowd, .str tMatch, .str tPlan, .str tVine])) g (ev_one rfl (es_of_l (el_lst (ea_cons ev_str (ea_cons ev_str (ea_cons ev_str (ea_cons ev_str (ea_cons ev_str ea_nil))))) (by simp))) (by simp) (by simp)) fun v1 H1 x1 ⟨dw, hw, r1⟩ => ?_
  obtain ⟨wd, edw, hw6⟩ : ∃ w : Str, dw = .str w ∧ (w = tFill ∨ w = tCrowd ∨ w = tMatch ∨ w = tPlan ∨ w = tVine) := by
    simp only [List.mem_cons, List.not_mem_nil, or_false] at hw
    rcases hw with e | e | e | e | e
    · exact ⟨_, e, .inl rfl⟩
    · exact ⟨_, e, .inr (.inl rfl)⟩
    · exact ⟨_, e, .inr (.inr (.inl rfl))⟩
    · exact ⟨_, e, .inr (.inr (.inr (.inl rfl)))⟩
    · exact ⟨_, e, .inr (.inr (.inr (.inr rfl)))⟩
  subst edw
  obtain rfl := rp_str.mp r1
  have rw1 : ∀ {H : Hp}, Rp K H (.str wd) (.str wd) := rp_str.mpr rfl
  have rq : ∀ {i : Int} {H : Hp}, Rp K H (.int i) (.int i) := rp_int.mpr rfl
  refine if_then (W := GW TT j) x1.2.1 (et_of (ev_eqS (ev_var rfl rw1) ev_str)) (fun hb H2 x2 => ?_) fun hb H2 x2 => ?_
  · obtain rfl : wd = tFill := of_decide_eq_true hb
    have x02 := x1.trans x2
    refine ⟨20, rfl, RgOk.of_le (by decide) (by decide) (by decide) (by decide), fun q hq => ⟨by decide, fun p hp => ⟨.ref q, .ref p, rfl, ?_⟩⟩⟩
    have hpq : p ≠ q := fun z => by
      rw [z, upd_same] at hp
      cases hp
    have xq := Wx.new (W := GW TT j) (o := .lst (rgV 0 20)) x2.2.1 hq
    have xp := Wx.new (W := GW TT j) (o := .lst []) xq.2.1 hp
    have x03 := x02.trans (xq.trans xp)
    have hp2 : H2 p = none := by rw [upd_ne hpq] at hp; exact hp
    have np : ¬ (GW TT j).M p := Wx.nM x2.2.1 hp2
    have nq : ¬ (GW TT j).M q := Wx.nM x2.2.1 hq
    have nq4 : ¬ (W4 TT j p).M q := fun z => z.elim nq fun z => hpq (List.mem_singleton.mp z).symm
    have hq3 : upd (upd H2 q (.lst (rgV 0 20))) p (.lst []) q = some (.lst (ns20.map V.int)) := by rw [upd_ne (Ne.symm hpq), upd_same, rg20]
    have hp3 : upd (upd H2 q (.lst (rgV 0 20))) p (.lst []) p = some (.lst []) := upd_same
    generalize upd (upd H2 q (.lst (rgV 0 20))) p (.lst []) = H3 at xp x03 hq3 hp3
    have g3 : (W4 TT j p).J H3 := ⟨x03.2.1, fun z hz => ⟨[], by rw [List.mem_singleton.mp hz]; exact hp3⟩⟩
    refine rows_All (K := K) (D := { nx := _, rt := _ }) (vw := .str tFill) g3 np hq3 nq4 hp3 fun o4 o5 o6 H4 x4 ⟨xs, hp4, hr4⟩ => ?_
    have x04 := wl_back x03 (fun z hz => by rw [List.mem_singleton.mp hz]; exact x02.fresh hp2) x4
    have pr : ∀ {H5 : Hp} {n : Nat}, Wx (GW TT j) H4 H5 → Ev (GW TT j) K (tCB (rTupOf K) (tCons (tSl (rSlL K) (tVar 3) tNoPart (tPart (tC (.int (n : Int))))) tNil)) [some (.ref j), some (.str tFill), some (.ref q), some (.ref p), o4, o5, o6, none, none] H5 (.tuple (rows4.take n)) := fun {H5 n} x => by
      have := el_slL (K := K) (evp_var (p := VP.r (GW TT j) K rows4) (σ := [some (.ref j), some (.str tFill), some (.ref q), some (.ref p), o4, o5, o6, none, none]) (i := 3) rfl ⟨p, xs, rfl, ⟨SqL.of (x.2.2 _ _ hp4 np), np⟩, x.rps hr4⟩) eo_none (eo_some (K := K) (i := (n : Int)) ev_int)
      rw [cutD_to] at this
      exact ev_tupOf this
    exact retJ kk x04 (evx_d (ev_tup (ea_cons (ev_tup (ea_cons (ev_var rfl rw1) (ea_cons (pr (n := 3000) (Wx.refl x04.2.1)) ea_nil)) (by simp)) (ea_cons (ev_tup (ea_cons (ev_var rfl rw1) (ea_cons (pr (n := 3001) (Wx.refl x04.2.1)) ea_nil)) (by simp)) ea_nil)) (by simp)) most_fill)
  have x02 := x1.trans x2
  refine if_then (W := GW TT j) x2.2.1 (et_of (ev_eqS (ev_var rfl rw1) ev_str)) (fun hb3 H3 x3 => ?_) fun hb3 H3 x3 => ?_
  · obtain rfl : wd = tCrowd := of_decide_eq_true hb3
    exact retJ kk (x02.trans x3) (evx_d (ev_tup (ea_cons (ev_tup (ea_cons (ev_var rfl rw1) (ea_cons ev_int (ea_cons (ev_tupRg (n := 80) (by decide)) ea_nil))) (by simp)) (ea_cons (ev_tup (ea_cons (ev_var rfl rw1) (ea_cons ev_int (ea_cons (ev_tupRg (n := 81) (by decide)) ea_nil))) (by simp)) ea_nil)) (by simp)) most_crowd)
  have x03 := x02.trans x3
  refine if_then (W := GW TT j) x3.2.1 (et_of (ev_eqS (ev_var rfl rw1) ev_str)) (fun hb4 H4 x4 => ?_) fun hb4 H4 x4 => ?_
  · obtain rfl : wd = tMatch := of_decide_eq_true hb4
    have t1 : ∀ {H5 : Hp}, Ev (GW TT j) K (tCB (rTupOf K) (tCons (tLc (iRng1 (tCons (tC (.int 80)) tNil)) (gName 8) tYes (tTup (tCons (tVar 8) (tCons (tOp (rI0 fun i j => V.int (i - j)) (tC (V.int 80)) (tVar 8)) tNil))) (List.map (fun x => x.snd) [(Str.ofString "at", 8)])) tNil)) [some (.ref j), some (.str tMatch), none, none, none, none, none, none, none] H5 (.tuple ((rngD 0 80).map tie1)) := fun {H5} =>
      ev_tupOf (el_map (src_range1 (j := 80) ev_int (by decide) (by decide)) (by unfold rngD; rw [List.length_map, List.length_range]; decide) fun d hd => by
        unfold rngD at hd
        obtain ⟨i, hi, e⟩ := List.mem_map.mp hd
        subst e
        exact lcs_name (e := tie1 (.int (0 + (i : Int)))) (fun H1 x x1 r => ev_tup (ea_cons (ev_var rfl r) (ea_cons (ev_opI0 ev_int (ev_var rfl r)) ea_nil)) (by simp)) (fun _ => rfl))
    have t2 : ∀ {H5 : Hp}, Ev (GW TT j) K (tCB (rTupOf K) (tCons (tLc (iRng1 (tCons (tC (.int 81)) tNil)) (gName 8) tYes (tTup (tCons (tVar 8) (tCons (tC (V.int 80)) tNil))) (List.map (fun x => x.snd) [(Str.ofString "at", 8)])) tNil)) [some (.ref j), some (.str tMatch), none, none, none, none, none, none, none] H5 (.tuple ((rngD 0 81).map tie2)) := fun {H5} =>
      ev_tupOf (el_map (src_range1 (j := 81) ev_int (by decide) (by decide)) (by unfold rngD; rw [List.length_map, List.length_range]; decide) fun d hd => lcs_name (e := tie2 d) (fun H1 x x1 r => ev_tup (ea_cons (ev_var rfl r) (ea_cons ev_int ea_nil)) (by simp)) (fun _ => rfl))
    exact retJ kk (x03.trans x4) (evx_d (ev_tup (ea_cons (ev_tup (ea_cons (ev_var rfl rw1) (ea_cons t1 ea_nil)) (by simp)) (ea_cons (ev_tup (ea_cons (ev_var rfl rw1) (ea_cons t2 ea_nil)) (by simp)) ea_nil)) (by simp)) most_match)
  have x04 := x03.trans x4
  refine if_then (W := GW TT j) x4.2.1 (et_of (ev_eqS (ev_var rfl rw1) ev_str)) (fun hb5 H5 x5 => ?_) fun hb5 H5 x5 => ?_
  · obtain rfl : wd = tPlan := of_decide_eq_true hb5
    exact retJ kk (x04.trans x5) (evx_d (ev_tup (ea_cons (ev_tup (ea_cons (ev_var rfl rw1) (ea_cons (ev_repT1 (n := 159) (ev_tup (ea_cons (ev_tup (ea_cons ev_int (ea_cons ev_int ea_nil)) (by simp)) ea_nil) (by simp)) (by decide) (by decide)) ea_nil)) (by simp)) (ea_cons (ev_tup (ea_cons (ev_var rfl rw1) (ea_cons (ev_repT1 (n := 160) (ev_tup (ea_cons (ev_tup (ea_cons ev_int (ea_cons ev_int ea_nil)) (by simp)) ea_nil) (by simp)) (by decide) (by decide)) ea_nil)) (by simp)) ea_nil)) (by simp)) most_plan)
  obtain rfl : wd = tVine := by
    rcases hw6 with z | z | z | z | z
    · exact (of_decide_eq_false hb z).elim
    · exact (of_decide_eq_false hb3 z).elim
    · exact (of_decide_eq_false hb4 z).elim
    · exact (of_decide_eq_false hb5 z).elim
    · exact z
  exact retJ kk (x04.trans x5) (evx_d (ev_tup (ea_cons (ev_tup (ea_cons (ev_var rfl rw1) (ea_cons (ev_repT1 (n := 400) (ev_tup (ea_cons ev_int ea_nil) (by simp)) (by decide) (by decide)) ea_nil)) (by simp)) (ea_cons (ev_tup (ea_cons (ev_var rfl rw1) (ea_cons (ev_repT1 (n := 401) (ev_tup (ea_cons ev_int ea_nil) (by simp)) (by decide) (by decide)) ea_nil)) (by simp)) ea_nil)) (by simp)) most_vine)
end
end Fd
-- K1
namespace Fd
open PySem PySem.Spec PyProof.Rows L2 LamX NdefX
/-- x if t else y, as a test -/
def tIfT (t ta tb : TT) : TT := fun σ H Q => t σ H fun c H1 => if c = true then ta σ H1 Q else tb σ H1 Q
theorem pt_ifE {X : Cx} {c a b : Expr} {tc ta tb : TT} {pos : Pos} (hc : PT X c tc) (ha : PT X a ta) (hb : PT X b tb) : PT X (.IfExp c a b pos) (tIfT tc ta tb) := by
  refine ⟨fun pins s σ H Q I h => ?_⟩
  refine isTrue_IfExp (thn (hc.run pins s σ H _ I h) fun d s1 ⟨H1, I1, q1⟩ => ?_)
  cases d with
  | true => exact ha.run pins s1 σ H1 Q I1 q1
  | false => exact hb.run pins s1 σ H1 Q I1 q1
theorem et_ifE {W : Wd} {tc ta tb : TT} {σ : L2.St} {H : Hp} {c a b : Bool} (h : EvT W tc σ H c) (h1 : c = true → EvT W ta σ H a) (h2 : c = false → EvT W tb σ H b) : EvT W (tIfT tc ta tb) σ H (if c = true then a else b) := fun H1 x Q k => h H1 x _ fun H2 x2 => by
  cases c with
  | true => exact h1 rfl H2 (x.trans x2) Q fun H3 x3 => k H3 (x2.trans x3)
  | false => exact h2 rfl H2 (x.trans x2) Q fun H3 x3 => k H3 (x2.trans x3)
/-- v stands for d, d plain or a list of plain data -/
def RL (K : PySem.W.Frag) (H : Hp) (d : PyData) (v : V) : Prop := (∃ (ds : List PyData) (p : Addr) (xs : List V), d = .list ds ∧ v = .ref p ∧ H p = some (.lst xs) ∧ Rps K H ds xs) ∨ Rp K H d v
def okL (n : Nat) (d : PyData) : Prop := (∃ (m : Nat) (ds : List PyData), n = m + 1 ∧ d = .list ds ∧ ds.length ≤ 5000 ∧ ∀ e ∈ ds, okB m e) ∨ okB n d
def spLike (K : PySem.W.Frag) : Nat → Sp
  | 0 => fun _ _ _ _ => False
  | n + 1 => fun vs H Q _ => ∃ (d : PyData) (v1 v2 : V), vs = [v1, v2] ∧ RL K H d v1 ∧ RL K H d v2 ∧ okL n d ∧ ∀ H', Same H H' → Q (.bl true) H'
theorem rl_plain {K : PySem.W.Frag} {H : Hp} {d : PyData} {v : V} (h : RL K H d v) (hd : ∀ ds, d ≠ .list ds) : Rp K H d v := h.elim (fun ⟨ds, _, _, e, _⟩ => (hd ds e).elim) id
section
variable {W : Wd} {K : PySem.W.Frag} {σ : L2.St} {H : Hp} {ta te : TE} {ds : List PyData} {tc : TT} {t1 u : TS} {D : Ends}
theorem skip0 (h : EvT W0 tc σ H false) (k : ∀ H1, Wx W0 H H1 → u D σ H1) : tSeq (tIfS tc t1 tNext) u D σ H := if0 h (fun z => by cases z) fun _ H1 x1 => k H1 x1
/-- a name that holds a list of data -/
@[reducible] def VP.t (W : Wd) (K : PySem.W.Frag) (ds : List PyData) : VP W := VP.l W K ds
theorem ev_isN_l (h : EvL W K ta σ H ds) : Ev W K (tOp (fun x y H Q => y = .non ∧ Q (.bl (decide (x = .non))) H) ta (tC .non)) σ H (.bool false) :=
  evp_op (q := VP.d W K .none) h ev_non fun x y H jH ⟨p, xs, e, _⟩ hy Q k => ⟨rp_non.mp hy, by rw [e]; exact k _ H (Wx.refl jH) (rp_bl.mpr rfl)⟩
theorem ev_isi_l {T : String} {b : Bool} (h : EvL W K te σ H ds) (hk : kitB "list" T = some b) : Ev W K (tCB (rIsi K) (tCons te (tCons (tC (.ty T)) tNil))) σ H (.bool b) := fun H1 x Q k =>
  h H1 x _ fun v H2 x2 ⟨p, xs, e, hp, _⟩ => ⟨v, .ty T, .type "list", .type T, b, rfl, .ty T, by rw [e]; exact .base (.lst hp), kit_ty hk, k _ H2 x2 (rp_bl.mpr rfl)⟩
end
section
variable {P : Program} {w : World} {K : PySem.W.Frag} {mg : Str → Option Value} {base : Heap}
theorem cd__law_like (T : Tx K mg) : ∀ n, Cd P w K mg base CX0 (3 + n) "_law_like" (spLike K n)
  | 0 => by
    refine cd_of (k := 2) T.d__law_like sc__law_like (fun _ _ _ _ _ _ us hl => match us, hl with | [_, _], _ => rfl) (fun vs H Q E h => h.elim) ?_
    intro f cdv A outer s H vs Q E hr h
    exact h.elim
  | n + 1 => by
    have IH := cd__law_like T n
    refine cd_of (k := 3 + n) T.d__law_like sc__law_like (fun _ _ _ _ _ _ us hl => match us, hl with | [_, _], _ => rfl) (fun vs H Q E h => by obtain ⟨_, _, _, e, _⟩ := h; rw [e]; rfl) ?_
    intro f cdv A outer s H vs Q E hr ⟨d, v1, v2, e, l1, l2, hok, kk⟩
    subst e
    refine ⟨_, (pss_cons (ps_if (pt_cmpR op_isN (pv 1) pe_non (nomark _))
      (pss_one (ps_ret (pe_cmpR op_isN (pv 0) pe_non (nomark _)))) pss_nil)
    (pss_cons (ps_if (pt_val (pe_callB (kIsi K) (by rfl) T.n_isinstance (by decide +kernel) (pa_cons (pv 1) (pa_cons (pe_bltn (v := .ty "bool") (u := .type "bool") (by rfl) T.n_bool (by decide +kernel) rfl) pa_nil))))
      (pss_one (ps_ret (pe_ifExp (pt_val (pv 1)) (pe_cmpR op_isBlA (pv 0) pe_bl (nomark _)) (pe_cmpR op_isBlA (pv 0) pe_bl (nomark _))))) pss_nil)
    (pss_cons (ps_if (pt_val (pe_callB (kIsi K) (by rfl) T.n_isinstance (by decide +kernel) (pa_cons (pv 1) (pa_cons (pe_bltn (v := .ty "int") (u := .type "int") (by rfl) T.n_int (by decide +kernel) rfl) pa_nil))))
      (pss_one (ps_ret (pe_and (pe_d (cd__law_is_whole T) hr (by omega) (pa_cons (pv 0) pa_nil)) (pe_one (pe_cmpR op_eq (pv 0) (pv 1) (nomark _)))))) pss_nil)
    (pss_cons (ps_if (pt_val (pe_callB (kIsi K) (by rfl) T.n_isinstance (by decide +kernel) (pa_cons (pv 1) (pa_cons (pe_bltn (v := .ty "str") (u := .type "str") (by rfl) T.n_str (by decide +kernel) rfl) pa_nil))))
      (pss_one (ps_ret (pe_and (pe_callB (kIsi K) (by rfl) T.n_isinstance (by decide +kernel) (pa_cons (pv 0) (pa_cons (pe_bltn (v := .ty "str") (u := .type "str") (by rfl) T.n_str (by decide +kernel) rfl) pa_nil))) (pe_one (pe_cmpR op_eq (pv 0) (pv 1) (nomark _)))))) pss_nil)
    (pss_cons (ps_if (pt_val (pe_callB (kIsi K) (by rfl) T.n_isinstance (by decide +kernel) (pa_cons (pv 1) (pa_cons (pe_bltn (v := .ty "dict") (u := .type "dict") (by rfl) T.n_dict (by decide +kernel) rfl) pa_nil))))
      pss_never pss_nil)
    (pss_cons (ps_if (PW.pt (pw_and (pt_not (pt_val (pe_callB (kIsi K) (by rfl) T.n_isinstance (by decide +kernel) (pa_cons (pv 1) (pa_cons (pe_bltn (v := .ty "tuple") (u := .type "tuple") (by rfl) T.n_tuple (by decide +kernel) rfl) pa_nil))))) (pw_and1 (pt_not (pt_val (pe_callB (kIsi K) (by rfl) T.n_isinstance (by decide +kernel) (pa_cons (pv 1) (pa_cons (pe_bltn (v := .ty "list") (u := .type "list") (by rfl) T.n_list (by decide +kernel) rfl) pa_nil))))))))
      pss_never pss_nil)
    (pss_cons (ps_if (pt_not (pt_ifE (pt_val (pe_callB (kIsi K) (by rfl) T.n_isinstance (by decide +kernel) (pa_cons (pv 1) (pa_cons (pe_bltn (v := .ty "tuple") (u := .type "tuple") (by rfl) T.n_tuple (by decide +kernel) rfl) pa_nil)))) (pt_val (pe_callB (kIsi K) (by rfl) T.n_isinstance (by decide +kernel) (pa_cons (pv 0) (pa_cons (pe_bltn (v := .ty "tuple") (u := .type "tuple") (by rfl) T.n_tuple (by decide +kernel) rfl) pa_nil)))) (pt_val (pe_callB (kIsi K) (by rfl) T.n_isinstance (by decide +kernel) (pa_cons (pv 0) (pa_cons (pe_bltn (v := .ty "list") (u := .type "list") (by rfl) T.n_list (by decide +kernel) rfl) pa_nil))))))
      (pss_one (ps_ret pe_bl)) pss_nil)
    (pss_one (ps_ret (pe_and (pe_cmpR op_eq (pe_callB (kLen K) (by rfl) T.n_len PySem.boot_len (pa_cons (pv 0) pa_nil)) (pe_callB (kLen K) (by rfl) T.n_len PySem.boot_len (pa_cons (pv 1) pa_nil)) (nomark _)) (pe_one (pe_cmpR (op_eq0 hr.units0) (pe_lc (own := [("at", 3)]) rfl sc__law_like.nd (pi_range1 (by rfl) T.n_range (pa_cons (pe_callB (kLen K) (by rfl) T.n_len PySem.boot_len (pa_cons (pv 1) pa_nil)) pa_nil)) (blkOk_by (N := N__law_like) (sc := defScope s__law_like) (by decide +kernel)) (fun _ _ _ _ _ => (pg_name (i := 3) sc__law_like.nd rfl (Or.inl rfl))) (fun _ _ _ _ _ => (pts_one (pt_not (pt_val (pe_d IH hr (Nat.le_refl _) (pa_cons (pe_ix (ixL K) (pv 0) (pv 3) (fun _ _ => rfl)) (pa_cons (pe_ix (ixL K) (pv 1) (pv 3) (fun _ _ => rfl)) pa_nil))))))) (fun _ _ _ _ _ => (pv 3))) (pe_lst pa_nil) (nomark _))))))))))))), ?_⟩
    have ret : ∀ {te : TE} {σ : L2.St} {H' : Hp} {D : Ends}, D.rt = Q → Wx W0 H H' → Ev W0 K te σ H' (.bool true) → tRet te D σ H' := fun hD x h => h.run (W := W0) trivial fun v H3 x3 r => by
      rw [hD]
      obtain rfl := rp_bl.mp r
      exact kk H3 fun b o q => (x.trans x3).2.2 b o q fun z => z
    -- what is left once both are known to be of one kind
    have fin : ∀ {ds : List PyData} {H1 : Hp} {D : Ends} (m : Nat), D.rt = Q → n = m + 1 → ds.length ≤ 5000 → (∀ e ∈ ds, okB m e) → Wx W0 H H1 → (∀ {H2 σ}, Wx W0 H1 H2 → σ[0]? = some (some v1) → EvS W0 K (tVar 0) σ H2 ds) → (∀ {H2 σ}, Wx W0 H1 H2 → σ[1]? = some (some v2) → EvS W0 K (tVar 1) σ H2 ds) →
        tRet (tAndV (tOp rEq (tCB (fun xs H Q => ∃ x n, xs = [x] ∧ LenV K x H n ∧ Q (.int n) H) (tCons (tVar 0) tNil)) (tCB (fun xs H Q => ∃ x n, xs = [x] ∧ LenV K x H n ∧ Q (.int n) H) (tCons (tVar 1) tNil)))
          (tOp (rEq0 K false) (tLc (iRng1 (tCons (tCB (fun xs H Q => ∃ x n, xs = [x] ∧ LenV K x H n ∧ Q (.int n) H) (tCons (tVar 1) tNil)) tNil)) (gName 3) (tNot (tB (tCall (spLike K n) [] E0 (tCons (tOp (rIx K) (tVar 0) (tVar 3)) (tCons (tOp (rIx K) (tVar 1) (tVar 3)) tNil))))) (tVar 3) [3]) (tLst tNil))) D [some v1, some v2, none, none] H1 := fun {ds H1 D} m hD hn hl hall x1 s1 s2 => by
      subst hn
      refine ret hD x1 (ev_is (ev_and (ev_eqI (ev_len (s1 x0 rfl)) (ev_len (s2 x0 rfl))) fun _ => ev_eq0L (ds := []) (er_of_l ?_)) (by simp))
      have hlc := el_lc (K := K) (W := W0) (σ := [some v1, some v2, none, none]) (H := H1) (g := gName 3) (vs := [3]) (fo := fun _ => none) (tt := tNot (tB (tCall (spLike K (m + 1)) [] E0 (tCons (tOp (rIx K) (tVar 0) (tVar 3)) (tCons (tOp (rIx K) (tVar 1) (tVar 3)) tNil))))) (te := tVar 3) (src_range1 (ev_len (s2 x0 rfl)) (by omega) (by omega)) (by unfold rngD; rw [List.length_map, List.length_range]; omega) fun d hd => ?_
      · rw [List.filterMap_eq_nil_iff.mpr (fun _ _ => rfl)] at hlc
        exact hlc
      · unfold rngD at hd
        obtain ⟨i, hi, e⟩ := List.mem_map.mp hd
        have hi' : i < ds.length := by
          have := List.mem_range.mp hi
          omega
        subst e
        rw [show (0 + (i : Int)) = (i : Int) by omega]
        have hds := List.getElem?_eq_getElem hi'
        refine lcs_nameIf (b := false) (e := .none) (fun H2 x x2 r => ?_) (fun z => by cases z) (fun _ => rfl)
        refine et_not (a := true) (et_B (K := K) fun H3 x3 Q3 k3 => ?_)
        obtain rfl := rp_int.mp r
        refine (ev_ixL (j := i) (s1 (x2.trans x3) rfl) (ev_var (i := 3) (d := .int (i : Nat)) rfl (rp_int.mpr rfl)) (ixN_nat hi') hds) H3 (Wx.refl trivial) _ fun u1 H4 x4 q1 => (ev_ixL (j := i) (s2 ((x2.trans x3).trans x4) rfl) (ev_var (i := 3) (d := .int (i : Nat)) rfl (rp_int.mpr rfl)) (ixN_nat hi') hds) H4 (Wx.refl trivial) _ fun u2 H5 x5 q2 => ⟨ds[i], u1, u2, rfl, .inr (x5.rp q1), .inr q2, .inr (hall _ (List.getElem_mem hi')), fun H6 s6 => k3 _ H6 ((x4.trans x5).trans (Wx.same trivial s6)) (rp_bl.mpr rfl)⟩
    rcases hok with ⟨m, ds, en, ed, hl, hall⟩ | hok
    · subst ed
      obtain ⟨ds1, p1, xs1, e1, ev1, hp1, hr1⟩ | h := l1
      · obtain ⟨ds2, p2, xs2, e2, ev2, hp2, hr2⟩ | h := l2
        · cases e1
          cases e2
          subst ev1 ev2
          have s1 : ∀ {H2 : Hp} {σ : L2.St}, Wx W0 H H2 → σ[0]? = some (some (.ref p1)) → EvL W0 K (tVar 0) σ H2 ds := fun x e => evp_var e ⟨p1, xs1, rfl, x.2.2 _ _ hp1 (fun z => z), fun z => z, x.rps hr1⟩
          have s2 : ∀ {H2 : Hp} {σ : L2.St}, Wx W0 H H2 → σ[1]? = some (some (.ref p2)) → EvL W0 K (tVar 1) σ H2 ds := fun x e => evp_var e ⟨p2, xs2, rfl, x.2.2 _ _ hp2 (fun z => z), fun z => z, x.rps hr2⟩
          refine skip0 (et_of (ev_isN_l (s2 x0 rfl))) fun H1 x1 => ?_
          refine skip0 (et_B (ev_isi_l (s2 x1 rfl) (by decide +kernel))) fun H2 x2 => ?_
          have x12 := x1.trans x2
          refine skip0 (et_B (ev_isi_l (s2 x12 rfl) (by decide +kernel))) fun H3 x3 => ?_
          have x13 := x12.trans x3
          refine skip0 (et_B (ev_isi_l (s2 x13 rfl) (by decide +kernel))) fun H4 x4 => ?_
          have x14 := x13.trans x4
          refine skip0 (et_B (ev_isi_l (s2 x14 rfl) (by decide +kernel))) fun H5 x5 => ?_
          have x15 := x14.trans x5
          refine skip0 (et_is (et_and (et_not (et_B (ev_isi_l (b := false) (s2 x15 rfl) (by decide +kernel)))) fun _ => et_not (et_B (ev_isi_l (b := true) (s2 x15 rfl) (by decide +kernel)))) rfl) fun H6 x6 => ?_
          have x16 := x15.trans x6
          refine skip0 (et_is (et_not (et_ifE (et_B (ev_isi_l (b := false) (s2 x16 rfl) (by decide +kernel))) (a := false) (b := true) (fun z => by cases z) fun _ => et_B (ev_isi_l (b := true) (s1 x16 rfl) (by decide +kernel)))) rfl) fun H7 x7 => ?_
          have x17 := x16.trans x7
          exact fin m rfl en hl hall x17 (fun x e => es_of_l (s1 (x17.trans x) e)) fun x e => es_of_l (s2 (x17.trans x) e)
        · exact (rp_list h).elim
      · exact (rp_list h).elim
    · have nl : ∀ ds, d ≠ .list ds := fun ds e => by
        subst e
        cases n <;> exact hok
      have r1 := rl_plain l1 nl
      have r2 := rl_plain l2 nl
      cases d with
      | none =>
        exact if0 (et_of (ev_isN (ev_var rfl r2) ev_non)) (fun _ H1 x1 => ret rfl x1 (ev_isN (ev_var rfl (x1.rp r1)) ev_non)) fun z => by cases z
      | bool b =>
        refine skip0 (et_of (ev_isN (ev_var rfl r2) ev_non)) fun H1 x1 => ?_
        refine if0 (et_B (ev_isBool (ev_var rfl (x1.rp r2)))) (fun _ H2 x2 => ?_) fun z => by cases z
        have x12 := x1.trans x2
        cases b with
        | true => exact ret rfl x12 (evp_if (et_B (ev_var rfl (x12.rp r2))) (fun _ => ev_isBlA (b := true) (ev_var rfl (x12.rp r1)) ev_bl) fun hb => by cases hb)
        | false => exact ret rfl x12 (evp_if (et_B (ev_var rfl (x12.rp r2))) (fun hb => by cases hb) fun _ => ev_isBlA (b := false) (ev_var rfl (x12.rp r1)) ev_bl)
      | int i =>
        refine skip0 (et_of (ev_isN (ev_var rfl r2) ev_non)) fun H1 x1 => ?_
        refine skip0 (et_B (ev_isBool (ev_var rfl (x1.rp r2)))) fun H2 x2 => ?_
        have x12 := x1.trans x2
        refine if0 (et_B (ev_isInt (ev_var rfl (x12.rp r2)))) (fun _ H3 x3 => ?_) fun z => by cases z
        have x13 := x12.trans x3
        exact ret rfl x13 (ev_is (ev_and (ev_call (ea_cons (ev_var rfl (x13.rp r1)) ea_nil) ⟨_, rfl, rfl⟩) fun _ => ev_eqI (ev_var rfl (x13.rp r1)) (ev_var rfl (x13.rp r2))) (by rw [decide_eq_true rfl]; rfl))
      | str z =>
        refine skip0 (et_of (ev_isN (ev_var rfl r2) ev_non)) fun H1 x1 => ?_
        refine skip0 (et_B (ev_isBool (ev_var rfl (x1.rp r2)))) fun H2 x2 => ?_
        have x12 := x1.trans x2
        refine skip0 (et_B (ev_isInt (ev_var rfl (x12.rp r2)))) fun H3 x3 => ?_
        have x13 := x12.trans x3
        refine if0 (et_B (ev_isStr (ev_var rfl (x13.rp r2)))) (fun _ H4 x4 => ?_) fun z => by cases z
        have x14 := x13.trans x4
        exact ret rfl x14 (ev_is (ev_and (ev_isStr (ev_var rfl (x14.rp r1))) fun _ => ev_eqS (ev_var rfl (x14.rp r1)) (ev_var rfl (x14.rp r2))) (by rw [decide_eq_true rfl]; rfl))
      | tuple ds =>
        obtain ⟨m, rfl⟩ : ∃ k, n = k + 1 := by
          cases n with
          | zero => exact hok.elim
          | succ k => exact ⟨k, rfl⟩
        obtain ⟨hl, hall⟩ := hok
        refine skip0 (et_of (ev_isN (ev_var rfl r2) ev_non)) fun H1 x1 => ?_
        refine skip0 (et_B (ev_isBool (ev_var rfl (x1.rp r2)))) fun H2 x2 => ?_
        have x12 := x1.trans x2
        refine skip0 (et_B (ev_isInt (ev_var rfl (x12.rp r2)))) fun H3 x3 => ?_
        have x13 := x12.trans x3
        refine skip0 (et_B (ev_isStr (ev_var rfl (x13.rp r2)))) fun H4 x4 => ?_
        have x14 := x13.trans x4
        refine skip0 (et_B (ev_isi (ev_var rfl (x14.rp r2)) (show kitB "tuple" "dict" = some false by decide +kernel))) fun H5 x5 => ?_
        have x15 := x14.trans x5
        refine skip0 (et_is (et_and (b := false) (et_not (et_B (ev_isTup (ev_var rfl (x15.rp r2))))) fun z => by cases z) rfl) fun H6 x6 => ?_
        have x16 := x15.trans x6
        refine skip0 (et_is (et_not (et_ifE (et_B (ev_isTup (ev_var rfl (x16.rp r2)))) (b := true) (fun _ => et_B (ev_isTup (ev_var rfl (x16.rp r1)))) fun z => by cases z)) rfl) fun H7 x7 => ?_
        have x17 := x16.trans x7
        exact fin m rfl rfl hl hall x17 (fun x e => es_of_t (ev_var e ((x17.trans x).rp r1))) fun x e => es_of_t (ev_var e ((x17.trans x).rp r2))
      | list ds => exact (nl ds rfl).elim
      | dict ds => cases n <;> exact hok.elim
end
end Fd
-- Ta
/-! Several except clauses, with names. -/
namespace Fd
open PySem PySem.Spec PyProof.Rows L2
/-- how the ends look when the clause's name goes -/
def goes : Option Nat → Ends → Ends
  | none, D => D
  | some i, D => { nx := fun σ' H' => D.nx (σ'.set i none) H', rt := D.rt, bk := fun σ' H' => D.bk (σ'.set i none) H', ct := fun σ' H' => D.ct (σ'.set i none) H' }
def comes : Option Nat → L2.St → Addr → L2.St
  | none, σ, _ => σ
  | some i, σ, a => σ.set i (some (.ref a))
structure Cl where
  c : Value
  i : Option Nat
  ts : Addr → Value → Option Addr → TS
/-- what the clauses wish of an exception of the body, one after the other -/
def wMA (K : PySem.W.Frag) (n : Nat) (Wout : WX) (D : Ends) : List Cl → WX
  | [] => Wout
  | q :: r => fun cls d σ H => ∃ b, PySem.W.exmOne K cls q.c = some b ∧ (b = true → σ.length = n → ∀ a, H a = none → q.ts a cls d (goes q.i D) (comes q.i σ a) H) ∧ (b = false → wMA K n Wout D r cls d σ H)
inductive HdsA (X : Cx) : List ExceptHandler → List Cl → Prop
  | nil : HdsA X [] []
  | cons {x : Str} {c : Value} {ts : Addr → Value → Option Addr → TS} {b₀ : Stmt} {suite : List Stmt} {np pos' : Pos} {hds : List ExceptHandler} {l : List Cl} (hc : Names X x c)
      (hsu : ∀ (a : Addr) (oe : Obj) (cls : Value) (d : Option Addr) (pn : List (Addr × Obj)), Zc cls d oe → (∃ vs, oe.data = .fields vs) → PSs (X.suite a ((a, oe) :: pn)) (b₀ :: suite) (ts a cls d)) (r : HdsA X hds l) :
      HdsA X (.ExceptHandler (some (.Name x np)) none (b₀ :: suite) pos' :: hds) (⟨c, none, ts⟩ :: l)
  | as {x n : Str} {i : Nat} {c : Value} {ts : Addr → Value → Option Addr → TS} {b₀ : Stmt} {suite : List Stmt} {np pos' : Pos} {hds : List ExceptHandler} {l : List Cl} (hi : X.N[i]? = some n) (hln : X.env.kindOf n = some .local) (hc : Names X x c)
      (hsu : ∀ (a : Addr) (oe : Obj) (cls : Value) (d : Option Addr) (pn : List (Addr × Obj)), Zc cls d oe → (∃ vs, oe.data = .fields vs) → PSs (X.suite a ((a, oe) :: pn)) (b₀ :: suite) (ts a cls d)) (r : HdsA X hds l) :
      HdsA X (.ExceptHandler (some (.Name x np)) (some n) (b₀ :: suite) pos' :: hds) (⟨c, some i, ts⟩ :: l)
section
variable {X : Cx} {body : List Stmt} {h₀ : ExceptHandler} {hds : List ExceptHandler} {l : List Cl} {pos : Pos} {tb : WX → TS} {Wout : WX}
theorem ps_try_ma (hs : X.stack = X.env :: X.outer) (hf : X.env.frame = some X.env.locals) (hN : X.N.Nodup) (tk : Takes X Wout)
    (hb : ∀ (W : WX) (pn : List (Addr × Obj)) (xe : Value → Shared → Prop), Takes (X.tr pn xe) W → PassesOwn (model X.prog X.w) X.A X.env xe → PSs (X.tr pn xe) body (tb W))
    (hh : HdsA X (h₀ :: hds) l) : PS X (.Try body (h₀ :: hds) [] [] pos) (fun D σ H => tb (wMA X.K X.N.length Wout D l) D σ H) := by
  refine ⟨fun pins s σ H D I h => ?_⟩
  have ok := I.ok
  have hfr : X.A.frames = some (X.env :: X.outer) := by rw [ok.frames, hs]
  refine wpAny_Try_except ?_
  refine wpAny_mono ((hb (wMA X.K X.N.length Wout D l) (X.pn ++ pins) (fun e s₁ => wpAny (model X.prog X.w) X.A (noteFrame e X.env) (fun _ s₂ => wpAny (model X.prog X.w) X.A (setFlight e none) (fun _ s₃ =>
    wpAny (model X.prog X.w) X.A (handleBy e X.env (h₀ :: hds)) (SP X pins D) X.xe s₃) X.xe s₂) X.xe s₁) (fun u s' xx => ?_) PassesOwn.looking).run [] s σ H D (I.toTry _) h) (fun f s1 hsp => ?_) (fun e s1 he => he)
  · -- the catch
    obtain ⟨a, B, sI, pins', σ', H', cls, d, rfl, J', nb, up, sky, na, os, ag, w⟩ := xx
    have J : Inv X pins σ' H' sI := J'.ofTry ok
    have sky' : Sky B (X.env :: X.outer) a (Zc cls d) X.env.locals s'.heap := by rw [← hs]; exact sky
    show wpAny (model X.prog X.w) X.A (noteFrame (.ref a) X.env) _ _ _
    refine Sky.land Zc.steady hfr hf sky' fun h3 fl3 up3 => ?_
    have J3 : Inv X pins σ' H' { s' with heap := h3 } := J.landed nb fl3.1 (up.trans up3) os ag
    obtain ⟨oe3, vs3, he3, hz3, hd3⟩ := fl3.there
    have notFr : ∀ {h : Heap} {o : Obj} {vs : Array Value}, h.FunFrames B (X.env :: X.outer) → h.get? a = some o → o.data = .fields vs → a ∉ frs (X.env :: X.outer) := fun {h o vs} ff e dd hm => by
      obtain ⟨_, o', e', hnf⟩ := ff.mem hm
      rw [e] at e'; cases e'
      exact hnf _ dd
    have nfr := notFr fl3.2.2.1 he3 hd3
    have nL : a ≠ X.env.locals := fun z => nfr (List.mem_filterMap.mpr ⟨X.env, List.mem_cons_self, by rw [hf, z]⟩)
    have nF : a ∉ X.fs := fun hm => by
      obtain ⟨e, he, q⟩ := List.mem_filterMap.mp hm
      exact nfr (List.mem_filterMap.mpr ⟨e, List.mem_cons_of_mem _ he, q⟩)
    have S3 := J3.suite he3 hd3 na nL nF
    have LT : PySem.W.Looks (model X.prog X.w) h3 (typeOf (.ref a)) cls := fun A Q E s k q => wpAny_typeOf_ref (k _ _ he3) (by rw [hz3.1]; exact q)
    have test : ∀ {x : Str} {c : Value} {np : Pos} {Q : Value → Shared → Prop} {E : Value → Shared → Prop}, Names X x c → Q c { s' with heap := h3 } → wpAny (model X.prog X.w) (X.A.mark (some (.ref a))) (eval (.Name x np) X.env) Q E { s' with heap := h3 } := fun {x c np Q E} hc q => by
      obtain ⟨hg, hdbg, hm | ⟨hm, hv, hnn⟩⟩ := hc
      · exact ld_glob (X := X.suite a ((a, oe3) :: (X.pn ++ pins))) S3 hg hm q hdbg
      · exact ld_blt (X := X.suite a ((a, oe3) :: (X.pn ++ pins))) S3 hg hm hv q hnn hdbg
    have go : ∀ {hds' : List ExceptHandler} {l' : List Cl}, HdsA X hds' l' → wMA X.K X.N.length Wout D l' cls d σ' H' →
        wpAny (model X.prog X.w) X.A (handleBy (.ref a) X.env hds') (SP X pins D) X.xe { s' with heap := h3 } := by
      intro hds' l' hk
      induction hk with
      | nil =>
        intro w
        refine wpAny_handleBy_nil ?_
        obtain ⟨k1, k2, k3, oe, vs, T, oT, ts', he, hz, hd, h1, hr⟩ := id fl3
        unfold PySem.passOn
        refine wpAny_bind (wpAny_field he hd h1 ?_)
        rw [if_neg (show ¬ ((Value.ref T == Value.none) = true) from by simp)]
        have fin : wpAny (model X.prog X.w) X.A (setFlight (.ref a) X.env.frame) (fun _ s4 => wpAny (model X.prog X.w) X.A (throw (.ref a) : Sem Flow) (SP X pins D) X.xe s4) X.xe { s' with heap := h3 } := by
          rw [hf]
          refine HandSPX.setFlight_upZ fl3 fun h4 hh4 up4 => wpAny_throw (tk _ _ ?_)
          exact ⟨a, B, sI, pins, σ', H', cls, d, rfl, J, nb, (up.trans up3).trans up4, .inr (.inr (by rw [hs]; exact hh4)), na, os, ag, w⟩
        first
          | exact wpAny_bind (wpAny_pure (wpAny_bind fin))
          | exact wpAny_bind fin
      | @cons x c ts b₀ suite np pos' hds2 l2 hc hsu r ih =>
        intro w
        obtain ⟨b, hb1, hyes, hno⟩ := w
        refine wpAny_handleBy_cons (codeAny_handlers_test ?_) (by intro q; cases q)
        have LM := PySem.W.exm_one (M := model X.prog X.w) (J3.kIn) LT hb1
        refine test hc (LM.here ?_)
        cases b with
        | true =>
          refine codeAny_handlers_suite ?_
          refine HandSPX.lands_againZ fl3 fun h4 fl4 up4 => ?_
          have J4 : Inv X pins σ' H' { s' with heap := h4 } := J.landed nb fl4.1 ((up.trans up3).trans up4) os ag
          obtain ⟨oe4, vs4, he4, hz4, hd4⟩ := fl4.there
          have S4 := J4.suite he4 hd4 na nL nF
          refine wpAny_mono ((hsu a oe4 cls d (X.pn ++ pins) hz4 ⟨_, hd4⟩).run [] _ _ H' _ S4 (hyes rfl J.len a na)) (fun f s6 hsp => ?_) (fun _ _ z => False.elim z)
          cases f with
          | next =>
            obtain ⟨σ6, H6, S6, q6⟩ := hsp
            exact ⟨_, _, S6.unsuite ok, q6⟩
          | brk =>
            obtain ⟨σ6, H6, S6, q6⟩ := hsp
            exact ⟨_, _, S6.unsuite ok, q6⟩
          | cont =>
            obtain ⟨σ6, H6, S6, q6⟩ := hsp
            exact ⟨_, _, S6.unsuite ok, q6⟩
          | ret u =>
            obtain ⟨v6, σ6, H6, S6, r6, q6⟩ := hsp
            exact ⟨_, _, _, S6.unsuite ok, r6, q6⟩
        | false =>
          show wpAny _ X.A (handleBy (.ref a) X.env hds2) _ _ _
          exact ih (hno rfl)
      | @as x n i c ts b₀ suite np pos' hds2 l2 hi hln hc hsu r ih =>
        intro w
        obtain ⟨b, hb1, hyes, hno⟩ := w
        have hloc : L2.Loc X.env.scope n := .inl hln
        refine wpAny_handleBy_cons (codeAny_handlers_test ?_) (by intro q; cases q)
        have LM := PySem.W.exm_one (M := model X.prog X.w) (J3.kIn) LT hb1
        refine test hc (LM.here ?_)
        cases b with
        | true =>
          refine codeAny_handlers_suite_as ?_
          refine HandSPX.lands_againZ fl3 fun h4 fl4 up4 => ?_
          have J4 : Inv X pins σ' H' { s' with heap := h4 } := J.landed nb fl4.1 ((up.trans up3).trans up4) os ag
          obtain ⟨oe4, vs4, he4, hz4, hd4⟩ := fl4.there
          have S4 := J4.suite he4 hd4 na nL nF
          refine store_ok (X := X.suite a ((a, oe4) :: (X.pn ++ pins))) (v := .ref a) S4 hN hi hloc rfl (fun s5 S5 => ?_) (.inr hln)
          refine wpAny_mono ((hsu a oe4 cls d (X.pn ++ pins) hz4 ⟨_, hd4⟩).run [] s5 _ H' _ S5 (hyes rfl J.len a na)) (fun f s6 hsp => ?_) (fun _ _ z => False.elim z)
          have end_ : ∀ {σ6 : L2.St} {H6 : Hp} {Q : Shared → Prop}, Inv (X.suite a ((a, oe4) :: (X.pn ++ pins))) [] σ6 H6 s6 → (∀ s7, Inv X pins (σ6.set i none) H6 s7 → Q s7) →
              wpAny (model X.prog X.w) X.A (do bindName X.env n .none; unbindBehindTheSuite X.env n pos') (fun _ s7 => Q s7) X.xe s6 := fun {σ6 H6 Q} S6 hq => gone_ok (S6.unsuite ok) hN hi hln hq
          cases f with
          | next =>
            obtain ⟨σ6, H6, S6, q6⟩ := hsp
            exact end_ S6 fun s7 J7 => ⟨_, _, J7, q6⟩
          | brk =>
            obtain ⟨σ6, H6, S6, q6⟩ := hsp
            exact end_ S6 fun s7 J7 => ⟨_, _, J7, q6⟩
          | cont =>
            obtain ⟨σ6, H6, S6, q6⟩ := hsp
            exact end_ S6 fun s7 J7 => ⟨_, _, J7, q6⟩
          | ret u =>
            obtain ⟨v6, σ6, H6, S6, r6, q6⟩ := hsp
            exact end_ S6 fun s7 J7 => ⟨_, _, _, J7, r6, q6⟩
        | false =>
          show wpAny _ X.A (handleBy (.ref a) X.env hds2) _ _ _
          exact ih (hno rfl)
    exact go hh w
  · cases f with
    | next =>
      obtain ⟨σ', H', J', q⟩ := hsp
      exact wpAny_execs_nil ⟨σ', H', J'.ofTry ok, q⟩
    | brk =>
      obtain ⟨σ', H', J', q⟩ := hsp
      exact ⟨σ', H', J'.ofTry ok, q⟩
    | cont =>
      obtain ⟨σ', H', J', q⟩ := hsp
      exact ⟨σ', H', J'.ofTry ok, q⟩
    | ret u =>
      obtain ⟨v, σ', H', J', r, q⟩ := hsp
      exact ⟨v, σ', H', J'.ofTry ok, r, q⟩
end
end Fd
-- Lc
/-! A lambda without parameters, which reads the names of its maker, handed to a def that calls it. -/
namespace Fd
open PySem PySem.Spec PyProof.Rows L2 LamX NdefX
/-- the lambda made in X -/
abbrev lmX (X : Cx) (params : Arguments) (body : Expr) (scope : Scope) (c' : Addr) : LF := ⟨X.env.qual ++ "<lambda>", params, body, scope, cloFrom X.env.cells scope.names [], c'⟩
section
variable {X : Cx} {pins : List (Addr × Obj)} {σ : L2.St} {H HZ : Hp} {s s1 : Shared}
theorem pe_act3 {CXg : CXT} {Eg : XK} {Ng : List Str} {qg : Str} {sg : Scope} {g f c' : Addr} {cdg : Value} {params : Arguments} {body : Expr} {scope : Scope} {k i : Nat} {a : Str} {pn : List (Addr × Obj)} {xe : Value → Shared → Prop} {W : WX} {E : XK} {tb : TE} {p1 p2 : Pos}
    (I : Inv X pins σ H s) (L : LamS X.env.scope scope)
    (hbind : ∀ pm ctv : Value, bindArgs (PySem.W.kla_fn "<lambda>" (X.env.qual ++ "<lambda>") params body scope (cloFrom X.env.cells scope.names []) pm (.ref c') ctv) ⟨[], []⟩ = pure [])
    (tk : Takes ((cxOf CXg X.prog X.w X.K X.mg X.base Ng qg sg g cdg X.A X.stack s H Eg).tr pn xe) W) (hW : ∀ cls d σ' H', E cls d H' → W cls d σ' H') (hr : Room (k + 1) (X.A.deeper (envOfC qg sg s.heap.objs.size g cdg)))
    (hbody : ∀ (A : Around) (outer : List Env) (s : Shared) (H : Hp), Room k (A.deeper (lamEnv X scope s.heap.objs.size f c')) → PE (lamCx X A outer s H E scope f c') body tb)
    (hN : Ng[i]? = some a) (hv : Vis sg a) (hd : (a == ("__debug__" : Str)) = false := by decide) (hcd : (a == ("__classdict__" : Str)) = false := by decide) :
    PE ((cxOf CXg X.prog X.w X.K X.mg X.base Ng qg sg g cdg X.A X.stack s H Eg).tr pn xe) (.Call (.Name a p1) [] [] p2)
      (fun σZ HZ Q => σZ[i]? = some (some (.ref f)) ∧ HZ f = some (LmO f (lmX X params body scope c')) ∧ HZ c' = some (CodeO c' (X.env.qual ++ "<lambda>")) ∧ tb σ HZ Q) := by
  refine ⟨fun pinsZ sZ σZ HZ Q IZ h => ?_⟩
  obtain ⟨hs, hf, hc, ht⟩ := h
  refine wpAny_Call_Name_kw (thn ((pe_var (pos := p1) (i := i) hN hv hd hcd).run pinsZ sZ σZ HZ (fun v H1 => v = .ref f ∧ H1 = HZ) IZ ⟨.ref f, hs, rfl, rfl⟩) fun u s1 ⟨v, H1, I1, r1, q1⟩ => ?_)
  obtain ⟨ev, eH⟩ := q1
  subst ev
  rw [eH] at I1
  obtain rfl : u = Value.ref f := r1
  obtain ⟨pm, ctv, of1⟩ := lmO_at I1.hok hf
  refine PySem.W.callWith_F0 ⟨_, _, _, _, of1⟩ ?_
  have un : Un (frs X.stack) [] H HZ s.heap s1.heap := I1.base
  obtain ⟨⟨oc, vs, t, hoc, hdc, hvc⟩, _, _⟩ := I1.hok c' _ hc
  have rc : codeAny (model X.prog X.w) (X.A.deeper (envOfC qg sg s.heap.objs.size g cdg)) (.call (.ref f) ⟨[], []⟩) (CR (L2.CX X.prog X.w) (envOfC qg sg s.heap.objs.size g cdg :: X.stack) X.prog X.w HZ s1 Q E) s1 := by
    refine PySem.W.kla_callFunE hr.depth of1 rfl L.co L.gen rfl ⟨c', oc, vs, t, rfl, hoc, hdc, hvc⟩ ?_
    rw [hbind]
    refine wpAny_pure (wpAny_newFunctionEnv (fun y hy => (L.own y hy).2) (fun y hy => absurd hy (by simp)) (fun h₁ hns hsb => ⟨I1.nolimit.fresh _ hsb, ?_⟩) L.kind)
    show codeAny _ _ (.expr body (lamEnv X scope s1.heap.objs.size f c')) _ _
    have kp : ∀ b o, s1.heap.get? b = some o → h₁.get? b = some o := fun b o e => hsb.extBut b o (Nat.ne_of_lt (Heap.lt_size e)) (Heap.get?_push_of_some _ e)
    have J : Inv (lamCx X (X.A.deeper (envOfC qg sg s.heap.objs.size g cdg)) (envOfC qg sg s.heap.objs.size g cdg :: X.stack) s1 HZ E scope f c') [] σ HZ { s1 with heap := h₁, toks := s1.toks + ([] : List (Str × Value)).length } :=
      lam_start2 I L I1.env0 hr.hd un hns kp
    refine PySem.W.kla_codeExpr (wpAny_mono ((hbody _ _ s1 HZ (hr.deeper _)).run [] _ _ HZ Q J ht) (fun v s' hq => ?_) fun e s' hq => hq)
    obtain ⟨w', H', J', rv, q⟩ := hq
    exact ⟨w', H', J'.os, J'.bare, J'.base, J'.hok, rv, q⟩
  have hx : Passes (L2.CX X.prog X.w) ((cxOf CXg X.prog X.w X.K X.mg X.base Ng qg sg g cdg X.A X.stack s H Eg).tr pn xe) E := passes_call tk hW
  refine wpAny_call (codeAny_mono rc fun r s' hq => ?_)
  cases r with
  | error e => exact hx pinsZ σZ HZ s1 e s' I1 hq
  | ok fl =>
    cases fl with
    | ret u => exact I1.after hq
    | next => exact False.elim hq
    | brk => exact False.elim hq
    | cont => exact False.elim hq
end
/-- the def that calls what it got: a calls it; TT: what it makes of the lambda's reading -/
def Gives3 (X : Cx) (Ng : List Str) (x : Str) (sg : Scope) (g : Addr) (cdg : Value) (bg : List Stmt) (a : Str) (mk : Addr → LF) (TD : (XK → Hp → VK → Prop) → Hp → VK → Prop) : Prop :=
  ∀ (f c' : Addr) (s : Shared) (H : Hp) (Q : VK) (tl : XK → Hp → VK → Prop),
    (∀ (W : WX) (pn : List (Addr × Obj)) (xe : Value → Shared → Prop) (E : XK) (p1 p2 : Pos), Takes ((cxOf CX0 X.prog X.w X.K X.mg X.base Ng x sg g cdg X.A X.stack s H E0).tr pn xe) W → (∀ cls d σ' H', E cls d H' → W cls d σ' H') →
      PE ((cxOf CX0 X.prog X.w X.K X.mg X.base Ng x sg g cdg X.A X.stack s H E0).tr pn xe) (.Call (.Name a p1) [] [] p2) (fun σZ HZ Q => σZ[0]? = some (some (.ref f)) ∧ HZ f = some (LmO f (mk c')) ∧ HZ c' = some (CodeO c' (mk c').qual) ∧ tl E HZ Q)) →
    H f = some (LmO f (mk c')) → H c' = some (CodeO c' (mk c').qual) → TD tl H Q →
    ∃ t, PSs (cxOf CX0 X.prog X.w X.K X.mg X.base Ng x sg g cdg X.A X.stack s H E0).nox bg t ∧ t { nx := fun _ H' => Q .non H', rt := Q } (L2.start Ng [.ref f]) H
def tLam3 (T : List NTab) (P : Addr) (TD : (XK → Hp → VK → Prop) → Hp → VK → Prop) (t : XK → TE) : TE := fun σ H Q => TabsN T H ∧ ∀ H1, (∀ b, H1 b = Option.none → H b = Option.none) → (∀ b o, H b = some o → b ≠ P → H1 b = some o) → TabsN T H1 → TD (fun E H' Q' => t E σ H' Q') H1 Q
section
variable {X : Cx}
/-- x(lambda: body) -/
theorem pe_lamcall3 {T : List NTab} {nm : Nat → Nat → Str} {TD : (XK → Hp → VK → Prop) → Hp → VK → Prop} {x a : Str} {g c P : Addr} {k : Nat} {pg : Arguments} {bg : List Stmt} {sg : Scope} {dV kV doc pm cdv ct oc : Value} {an od : Option Addr} {osl : Array (Option Value)} {Ng : List Str}
    {params : Arguments} {body : Expr} {scope : Scope} {t : XK → TE} {p lpos pos : Pos} (hg : Gl X x) (hm : X.mg x = some (.ref g)) (hk : PySem.W.keepIn X.K (.ref g) = true)
    (lk : X.K.lookup g = some ⟨oc, od, .func (PySem.W.fnOf x x pg bg sg dV kV doc pm an cdv ct), osl⟩) (hcg : PySem.W.codeIn X.K cdv x = true) (hb : L2.Binds X.K (PySem.W.fnOf x x pg bg sg dV kV doc pm an cdv ct) [a] []) (Sg : FnScope Ng [a] sg) (hNg : Ng[0]? = some a) (hva : Vis sg a)
    (hG : Gives3 X Ng x sg g cdv bg a (lmX X params body scope) TD)
    (TB : TabB X.base X.mg c P) (hcode : X.env.code = .ref c) (hmT : (P, nm) ∈ T) (hn : nm lpos.line lpos.col = X.env.qual ++ "<lambda>") (hu : ∀ p ∈ T, p.1 = P → p.2 = nm) (hr : Room (k + 2) X.A) (L : LamS X.env.scope scope) (hdef : defaultsOf params X.env = ([], []))
    (hbind : ∀ (q : Str) (cl : List (Str × Addr)) (pm cv ctv : Value), bindArgs (PySem.W.kla_fn "<lambda>" q params body scope cl pm cv ctv) ⟨[], []⟩ = pure [])
    (hbody : ∀ (A : Around) (outer : List Env) (s : Shared) (H : Hp) (E : XK) (f c' : Addr), Room k (A.deeper (lamEnv X scope s.heap.objs.size f c')) → PE (lamCx X A outer s H E scope f c') body (t E))
    (hdb : (x == ("__debug__" : Str)) = false := by decide) (hd : (a == ("__debug__" : Str)) = false := by decide) (hcd : (a == ("__classdict__" : Str)) = false := by decide) :
    PE X (.Call (.Name x p) [.Lambda params body scope lpos] [] pos) (tLam3 T P TD t) := by
  refine ⟨fun pins s σ H Q I h => ?_⟩
  obtain ⟨hT, h⟩ := h
  refine wpAny_Call_Name_kw (ld_glob I hg hm ?_ hdb)
  refine PySem.W.callWith_K (h₀ := X.base) I.ok.mod.kin hk ?_ (by rfl) (by rfl)
  show wpAny _ _ (spliced ((false, eval (.Lambda params body scope lpos) X.env) :: backTo pos (starEach [] X.env))) _ _ s
  refine Calls.spliced_cons (lam_make3 I TB hcode hmT hn hu hT hdef (L.has I.ok) fun f c' H1 s' I1 eN nn ke T1 f0 f1 c1 => ?_)
  refine Calls.spliced_nil ⟨I1.kIn, ?_⟩
  have rc : codeAny (model X.prog X.w) X.A (.call (.ref g) ⟨[.ref f], []⟩) (CR CX0 X.stack X.prog X.w H1 s' Q E0) s' := by
    refine run_ofS (N := Ng) (ps := [a]) (us := [.ref f]) (vs := [.ref f]) lk hcg Sg hr I1.env0 (hb s' [.ref f] I1.kIn rfl) (.cons rfl .nil) rfl fun hr' => ?_
    obtain ⟨t', ht', hq'⟩ := hG f c' s' H1 Q (fun E H' Q' => t E σ H' Q') (fun W pn xe E p1 p2 tk hW => pe_act3 (i := 0) I1 L (hbind _ _ · _ ·) tk hW hr' (fun A outer s H hr2 => hbody A outer s H E f c' hr2) hNg hva hd hcd) f1 c1 (h H1 nn ke T1)
    exact ⟨t', ht'.nox, hq'⟩
  refine wpAny_call (codeAny_mono rc fun r s2 hq => ?_)
  cases r with
  | error e => exact (show False from hq).elim
  | ok fl =>
    cases fl with
    | ret u => exact I1.after hq
    | next => exact False.elim hq
    | brk => exact False.elim hq
    | cont => exact False.elim hq
end
end Fd
-- K2
/-! _law_papers_heard: what a call told, or what it refused. -/
namespace Fd
open PySem PySem.Spec PyProof.Rows L2 LamX NdefX
/-- whether an error x is one of y -/
def XM (K : PySem.W.Frag) (mg : Str → Option Value) (x y : Str) (b : Bool) : Prop := ∃ C C' : Addr, mg x = some (.ref C) ∧ mg y = some (.ref C') ∧ PySem.W.exmOne K (.ref C) (.ref C') = some b
structure XMs (K : PySem.W.Frag) (mg : Str → Option Value) : Prop where
  rf : ∃ C : Addr, mg "Refused" = some (.ref C)
  pp : XM K mg "BadPaper" "BadPaper" true
  wp : XM K mg "WrongLine" "BadPaper" false
  ww : XM K mg "WrongLine" "WrongLine" true
  tp : XM K mg "BadText" "BadPaper" false
  tw : XM K mg "BadText" "WrongLine" false
  tt : XM K mg "BadText" "BadText" true
  mp : XM K mg "TooMany" "BadPaper" false
  mw : XM K mg "TooMany" "WrongLine" false
  mt : XM K mg "TooMany" "BadText" false
  mm : XM K mg "TooMany" "TooMany" true
def exNames : List Str := ["BadPaper", "WrongLine", "BadText", "TooMany"]
/-- the pair of a word and a value -/
def pairK (x : Str) (v : V) (Q : VK) (H : Hp) : Prop := ([.str x, v] : List V).length ≤ sizeLine ∧ ∀ p, H p = Option.none → Q (.ref p) (upd H p (.tup [.str x, v]))
/-- told what asked() hands back, or the error's name and what it keeps -/
def TTheard (mg : Str → Option Value) : (XK → Hp → VK → Prop) → Hp → VK → Prop := fun tl H Q =>
  tl (fun cls d H' => ∃ (x : Str) (C dd : Addr) (v : V), x ∈ exNames ∧ mg x = some (.ref C) ∧ cls = .ref C ∧ d = some dd ∧ H' dd = some (.xd [("what", v)]) ∧ pairK x v Q H')
    H (fun v H' => pairK "told" v Q H')
theorem xm_at {K : PySem.W.Frag} {mg : Str → Option Value} {x y : Str} {b : Bool} {C C' : Addr} (h : XM K mg x y b) (h1 : mg x = some (.ref C)) (h2 : mg y = some (.ref C')) : PySem.W.exmOne K (.ref C) (.ref C') = some b := by
  obtain ⟨D, D', e1, e2, e3⟩ := h
  rw [h1] at e1
  rw [h2] at e2
  cases e1
  cases e2
  exact e3
abbrev suiteT (x : Str) (C : Addr) : Addr → Value → Option Addr → TS := fun a cls d => tRet (tTup (tCons (tC (.str x)) (tCons (tXf a cls d C "what" (tVar 1)) tNil)))
theorem heard_gives {X : Cx} {g : Addr} {cdg : Value} {mk : Addr → LF} (Z : Tz X.K X.mg) (M : XMs X.K X.mg) : Gives3 X N__law_papers_heard "_law_papers_heard" (defScope s__law_papers_heard) g cdg (defBody s__law_papers_heard) "asked" mk (TTheard X.mg) := by
  intro f c' s H Q tl act hf hc h
  obtain ⟨Cp, _, _, mp, _, np, _, _, _, xp⟩ := Z.x_BadPaper.ex
  obtain ⟨Cw, _, _, mw, _, nw, _, _, _, xw⟩ := Z.x_WrongLine.ex
  obtain ⟨Ct, _, _, mt, _, nt, _, _, _, xt⟩ := Z.x_BadText.ex
  obtain ⟨Cm, _, _, mm, _, nm, _, _, _, xm⟩ := Z.x_TooMany.ex
  obtain ⟨Cr, mr⟩ := M.rf
  refine ⟨_, pss_one (ps_try_ma (X := (cxOf CX0 X.prog X.w X.K X.mg X.base N__law_papers_heard "_law_papers_heard" (defScope s__law_papers_heard) g cdg X.A X.stack s H E0).nox)
      (l := [⟨.ref Cp, some 1, suiteT "BadPaper" Cp⟩, ⟨.ref Cw, some 1, suiteT "WrongLine" Cw⟩, ⟨.ref Ct, some 1, suiteT "BadText" Ct⟩, ⟨.ref Cm, some 1, suiteT "TooMany" Cm⟩, ⟨.ref Cr, none, fun _ _ _ => tRet (tTup (tCons (tC (.str "another")) (tCons (tC .non) tNil)))⟩])
      (tb := fun W D σ H => ∃ Ech : XK, (∀ cls d σ' H', Ech cls d H' → W cls d σ' H') ∧ σ[0]? = some (some (.ref f)) ∧ H f = some (LmO f (mk c')) ∧ H c' = some (CodeO c' (mk c').qual) ∧ tl Ech H (fun v H' => pairK "told" v D.rt H'))
      rfl rfl sc__law_papers_heard.nd LamX.takes0 (fun W pn xe tk _ => ?_)
      (.as rfl rfl ⟨rfl, rfl, .inl mp⟩ (fun a oe cls d pn hz hf => pss_one (ps_ret (pe_tup (pa_cons pe_str (pa_cons (pe_xf xp np hz hf (pv 1)) pa_nil)))))
        (.as rfl rfl ⟨rfl, rfl, .inl mw⟩ (fun a oe cls d pn hz hf => pss_one (ps_ret (pe_tup (pa_cons pe_str (pa_cons (pe_xf xw nw hz hf (pv 1)) pa_nil)))))
          (.as rfl rfl ⟨rfl, rfl, .inl mt⟩ (fun a oe cls d pn hz hf => pss_one (ps_ret (pe_tup (pa_cons pe_str (pa_cons (pe_xf xt nt hz hf (pv 1)) pa_nil)))))
            (.as rfl rfl ⟨rfl, rfl, .inl mm⟩ (fun a oe cls d pn hz hf => pss_one (ps_ret (pe_tup (pa_cons pe_str (pa_cons (pe_xf xm nm hz hf (pv 1)) pa_nil)))))
              (.cons ⟨rfl, rfl, .inl mr⟩ (fun a oe cls d pn hz hf => pss_one (ps_ret (pe_tup (pa_cons pe_str (pa_cons pe_non pa_nil))))) .nil)))))), ?_⟩
  · refine ⟨fun pins s' σ H' D I h' => ?_⟩
    obtain ⟨Ech, hW, h1, h2, h3, h4⟩ := h'
    refine PSs.run (t := tRet (tTup (tCons (tC (.str "told")) (tCons (fun σZ HZ Q => σZ[0]? = some (some (.ref f)) ∧ HZ f = some (LmO f (mk c')) ∧ HZ c' = some (CodeO c' (mk c').qual) ∧ tl Ech HZ Q) tNil)))) ?_ pins s' σ H' D I ⟨h1, h2, h3, h4⟩
    exact pss_one (ps_ret (pe_tup (pa_cons pe_str (pa_cons (act W pn xe Ech _ _ tk hW) pa_nil))))
  · refine ⟨_, fun cls d σ' H' hx => ?_, rfl, hf, hc, h⟩
    obtain ⟨x, C, dd, v, hx, hmx, e1, e2, e3, q⟩ := hx
    subst e1 e2
    have suite : ∀ (a : Addr) (y : Str), σ'.length = 2 → x = y → suiteT y C a (.ref C) (some dd) (goes (some 1) { nx := fun _ H' => Q .non H', rt := Q }) (comes (some 1) σ' a) H' := fun a y hl e => by
      subst e
      have hs : (σ'.set 1 (some (.ref a)))[1]? = some (some (.ref a)) := List.getElem?_set_self (by omega)
      exact ⟨.ref a, hs, rfl, rfl, dd, _, v, rfl, e3, rfl, q⟩
    simp only [exNames, List.mem_cons, List.not_mem_nil, or_false] at hx
    rcases hx with e | e | e | e
    · subst e
      rw [mp] at hmx
      cases hmx
      exact ⟨true, xm_at M.pp mp mp, fun _ hl a _ => suite a _ hl rfl, fun z => by cases z⟩
    · subst e
      rw [mw] at hmx
      cases hmx
      exact ⟨false, xm_at M.wp mw mp, fun z => (by cases z), fun _ => ⟨true, xm_at M.ww mw mw, fun _ hl a _ => suite a _ hl rfl, fun z => by cases z⟩⟩
    · subst e
      rw [mt] at hmx
      cases hmx
      exact ⟨false, xm_at M.tp mt mp, fun z => (by cases z), fun _ => ⟨false, xm_at M.tw mt mw, fun z => (by cases z), fun _ => ⟨true, xm_at M.tt mt mt, fun _ hl a _ => suite a _ hl rfl, fun z => by cases z⟩⟩⟩
    · subst e
      rw [mm] at hmx
      cases hmx
      exact ⟨false, xm_at M.mp mm mp, fun z => (by cases z), fun _ => ⟨false, xm_at M.mw mm mw, fun z => (by cases z), fun _ => ⟨false, xm_at M.mt mm mt, fun z => (by cases z), fun _ => ⟨true, xm_at M.mm mm mm, fun _ hl a _ => suite a _ hl rfl, fun z => by cases z⟩⟩⟩⟩
end Fd
-- K3
/-! _law_papers_heard, called with a lambda. -/
namespace Fd
open PySem PySem.Spec PyProof.Rows L2 LamX NdefX
theorem pe_heard {X : Cx} {TT : List NTab} {nm : Nat → Nat → Str} {c P : Addr} {k : Nat} {params : Arguments} {body : Expr} {scope : Scope} {t : XK → TE} {p lpos pos : Pos} (Z : Tz X.K X.mg) (M : XMs X.K X.mg) (hg : Gl X "_law_papers_heard")
    (TB : TabB X.base X.mg c P) (hcode : X.env.code = .ref c) (hmT : (P, nm) ∈ TT) (hn : nm lpos.line lpos.col = X.env.qual ++ "<lambda>") (hu : ∀ p ∈ TT, p.1 = P → p.2 = nm) (hr : Room (k + 2) X.A) (L : LamS X.env.scope scope) (hdef : defaultsOf params X.env = ([], []))
    (hbind : ∀ (q : Str) (cl : List (Str × Addr)) (pm cv ctv : Value), bindArgs (PySem.W.kla_fn "<lambda>" q params body scope cl pm cv ctv) ⟨[], []⟩ = pure [])
    (hbody : ∀ (A : Around) (outer : List Env) (s : Shared) (H : Hp) (E : XK) (f c' : Addr), Room k (A.deeper (lamEnv X scope s.heap.objs.size f c')) → PE (lamCx X A outer s H E scope f c') body (t E)) :
    PE X (.Call (.Name "_law_papers_heard" p) [.Lambda params body scope lpos] [] pos) (tLam3 TT P (TTheard X.mg) t) := by
  obtain ⟨g, fd, hm, F⟩ := Z.toTx.d__law_papers_heard
  obtain ⟨oc, od, kV, doc, pm, an, cdv, ct, osl, e, lk, hcd⟩ := F.ex
  subst e
  exact pe_lamcall3 hg hm F.kp lk hcd (.all fun us hl => match us, hl with | [_], _ => rfl) sc__law_papers_heard rfl (Or.inl rfl) (heard_gives Z M) TB hcode hmT hn hu hr L hdef hbind hbody
theorem lamS_at {X : Cx} {sc scope : Scope} (h : lamSB sc scope = true) (e : X.env.scope = sc := by rfl) : LamS X.env.scope scope := by
  rw [e]
  exact lamS_by h
/-- the world knows the tables, and may change the one at P -/
structure HasT (W : Wd) (TT : List NTab) (P : Addr) : Prop where
  tab : ∀ H, W.J H → TabsN TT H
  step : ∀ H H1, W.J H → (∀ b o, H b = some o → b ≠ P → H1 b = some o) → TabsN TT H1 → Wx W H H1
theorem hasT_gw {TT : List NTab} {P j : Addr} {nm : Nat → Nat → Str} (hm : (P, nm) ∈ TT) : HasT (GW TT j) TT P := by
  refine ⟨fun H h => h.2, fun H H1 g k T1 => ⟨g, ⟨?_, T1⟩, fun b o e n => k b o e fun z => n (.inr ⟨_, hm, z.symm⟩)⟩⟩
  obtain ⟨⟨x, y, e, ok⟩, t⟩ := g
  refine ⟨x, y, k _ _ e fun z => ?_, ok⟩
  obtain ⟨ps, h1, _⟩ := t _ hm
  rw [z] at e
  rw [show ((P, nm) : NTab).1 = P from rfl, e] at h1
  cases h1
/-- the lambda's body hands back or refuses out -/
def Tells (W : Wd) (K : PySem.W.Frag) (mg : Str → Option Value) (t : XK → TE) (σ : L2.St) (H : Hp) (out : PyData ⊕ (Str × PyData)) : Prop := ∀ H1, Wx W H H1 → ∀ (Q : VK) (E : XK),
  (∀ r, out = .inl r → ∀ v H2, Wx W H1 H2 → Rp K H2 r v → Q v H2) → (∀ x w, out = .inr (x, w) → OutX K mg (Wx W H1) x w E) → t E σ H1 Q
section
variable {W : Wd} {K : PySem.W.Frag} {mg : Str → Option Value} {TT : List NTab} {P : Addr} {t : XK → TE} {ta : TA} {σ : L2.St} {H : Hp} {out : PyData ⊕ (Str × PyData)} {d : PyData} {v : V} {l : List Nat}
theorem ev_heard (hT : HasT W TT P) (h : Tells W K mg t σ H out) (hx : ∀ x w, out = .inr (x, w) → x ∈ exNames) : Ev W K (tLam3 TT P (TTheard mg) t) σ H (encP out) := fun H1 x Q k => by
  refine ⟨hT.tab H1 x.2.1, fun H2 nn ke T2 => ?_⟩
  have x2 := hT.step H1 H2 x.2.1 ke T2
  refine h H2 (x.trans x2) _ _ (fun r e v H3 x3 rv => ⟨by show (2 : Nat) ≤ sizeLine; decide, fun p hp => ?_⟩) fun y w e C dd v H3 hm x3 hd rv => ⟨y, C, dd, v, hx y w e, hm, rfl, rfl, hd, by show (2 : Nat) ≤ sizeLine; decide, fun p hp => ?_⟩
  · subst e
    have xn := Wx.new (o := .tup [.str "told", v]) x3.2.1 hp
    exact k _ _ ((x2.trans x3).trans xn) (rp_tup.mpr ⟨p, _, rfl, SqT.of upd_same, rps_cons.mpr ⟨_, _, rfl, rp_str.mpr rfl, .one (xn.rp rv)⟩⟩)
  · subst e
    have xn := Wx.new (o := .tup [.str y, v]) x3.2.1 hp
    exact k _ _ ((x2.trans x3).trans xn) (rp_tup.mpr ⟨p, _, rfl, SqT.of upd_same, rps_cons.mpr ⟨_, _, rfl, rp_str.mpr rfl, .one (xn.rp rv)⟩⟩)
theorem tells_R {f : List PyData → PyData ⊕ (Str × PyData) → Prop} {ds : List PyData} (h : EvA W K ta σ H ds) (hf : f ds out) : Tells W K mg (fun E => tCallS (SpR K mg f) (WE fun c d _ H => E c d H) ta) σ H out := fun H1 x Q E k1 k2 =>
  h H1 x _ fun vs H2 x2 hs => ⟨ds, out, hs, hf, fun r e v H3 s rr => k1 r e v H3 (x2.trans (Wx.same x2.2.1 s)) rr, fun y w e => (k2 y w e).imp fun H3 s => x2.trans (Wx.same x2.2.1 s)⟩
theorem tells_read (h : EvA W K ta σ H [.str (S l)]) (hl : l.length ≤ 1000000) : Tells W K mg (fun E => tCallS (spRead K mg) (WE fun c d _ H => E c d H) ta) σ H (readP l) := fun H1 x Q E k1 k2 =>
  h H1 x _ fun vs H2 x2 hs => by
    obtain ⟨v, e, r⟩ := rps1 hs
    exact ⟨v, e, readP l, .inl ⟨l, rp_str.mp r, hl, rfl⟩, fun r e v H3 s rr => k1 r e v H3 (x2.trans (Wx.same x2.2.1 s)) rr, fun y w e => (k2 y w e).imp fun H3 s => x2.trans (Wx.same x2.2.1 s)⟩
theorem tells_bad {i : Nat} (e : σ[i]? = some (some v)) (h : ∀ H1, Wx W H H1 → NotS K H1 v) : Tells W K mg (fun E => tCallS (spRead K mg) (WE fun c d _ H => E c d H) (tCons (tVar i) tNil)) σ H (.inr ("BadText", .int (-1))) := fun H1 x Q E k1 k2 =>
  ⟨v, e, v, rfl, _, .inr ⟨h H1 x, rfl⟩, fun r e => (by cases e), fun y w e => (k2 y w e).imp fun H3 s => Wx.same x.2.1 s⟩
end
theorem readP_ex {l : List Nat} {x : Str} {w : PyData} (h : readP l = .inr (x, w)) : x ∈ exNames := by
  unfold readP at h
  split at h
  · cases h
    decide
  · split at h
    · cases h
      decide
    · split at h
      · cases h
        decide
      · split at h
        · split at h
          · cases h
            decide
          · cases h
        · cases h
          decide
end Fd
-- M10
/-! How deep and how large what is read is. -/
namespace Fd
open PySem PySem.Spec PyProof.Rows L2
theorem okB_gr {m : Nat} {n : Int} (h : gr n) : okB m (.int n) := by
  have h1 : n.natAbs < 2 ^ 100 := by
    unfold gr HI at h
    omega
  cases m <;> exact h1
theorem okR_ints {m : Nat} {ns : List Int} (hl : ns.length ≤ 5000) (h : ∀ n ∈ ns, gr n) : okB (m + 1) (.tuple (ns.map .int)) := by
  refine ⟨by rw [List.length_map]; exact hl, fun d hd => ?_⟩
  obtain ⟨n, hn, e⟩ := List.mem_map.mp hd
  subst e
  exact okB_gr (h n hn)
theorem partsGo_in {f : List Nat → PyData} {most : Nat} {adj : PyData → PyData → Bool} {G : PyData → Prop} (hf : ∀ w, isNone (f w) = false → G (f w)) : ∀ (ws : List (List Nat)) (found : List PyData) (i : Nat), (∀ d ∈ found, G d) → found.length ≤ most →
    match partsGo f most adj found i ws with
    | .inl l => (∀ d ∈ l, G d) ∧ l.length ≤ most
    | .inr j => j ≤ i + ws.length
  | [], found, i, h, hl => by
    rw [partsGo]
    exact ⟨h, hl⟩
  | w :: ws, found, i, h, hl => by
    rw [partsGo]
    by_cases hc : (!isNone (f w) && decide (found.length < most) && fits adj found (f w)) = true
    · rw [if_pos hc]
      simp only [Bool.and_eq_true, Bool.not_eq_true', decide_eq_true_eq] at hc
      have := partsGo_in (most := most) (adj := adj) hf ws (found ++ [f w]) (i + 1) (fun d hd => by
        rcases List.mem_append.mp hd with z | z
        · exact h d z
        · rw [List.mem_singleton.mp z]
          exact hf w hc.1.1) (by rw [List.length_append, List.length_singleton]; omega)
      cases e : partsGo f most adj (found ++ [f w]) (i + 1) ws with
      | inl l =>
        rw [e] at this
        exact this
      | inr j =>
        rw [e] at this
        dsimp only at this ⊢
        rw [List.length_cons]
        omega
    · rw [if_neg hc]
      show i ≤ _
      omega
theorem rowOf_ok {w : List Nat} (h : isNone (rowOf 97 w) = false) : okB 2 (rowOf 97 w) := by
  obtain ⟨ns, n, e, hl, h1, h2⟩ := rowOf_some h
  rw [e]
  obtain ⟨hg, hn, _⟩ := lotI_gr hl (by decide) (by decide)
  refine ⟨by simp, fun d hd => ?_⟩
  simp only [List.mem_cons, List.not_mem_nil, or_false] at hd
  rcases hd with e | e
  · subst e
    exact okR_ints (by omega) hg
  · subst e
    exact okB_gr ⟨by omega, by unfold HI; omega⟩
theorem tieOf_ok {w : List Nat} (h : isNone (tieOf w) = false) : okB 2 (tieOf w) := by
  unfold tieOf at h ⊢
  split at h
  · split at h
    · rename_i n m e1 e2
      exact okR_ints (m := 1) (ns := [n, m]) (by simp) fun z hz => by
        simp only [List.mem_cons, List.not_mem_nil, or_false] at hz
        rcases hz with e | e
        · subst e
          exact numOf_gr e1
        · subst e
          exact numOf_gr e2
    · cases h
  · cases h
theorem setOf_ok {w : List Nat} (h : isNone (setOf w) = false) : okB 2 (setOf w) := by
  unfold setOf at h ⊢
  split at h
  · split at h
    · rename_i ns e1 e2
      rw [if_pos e2]
      obtain ⟨hg, hn, _⟩ := lotI_gr e2 (by decide) (by decide)
      exact okR_ints (m := 1) (by omega) hg
    · cases h
  · cases h
theorem idxOf_ok {w : List Nat} (h : isNone (idxOf w) = false) : okB 2 (idxOf w) := by
  unfold idxOf at h ⊢
  cases e : numOf w with
  | none =>
    rw [e] at h
    cases h
  | some n => exact okB_gr (numOf_gr e)
/-- what a line hands back is not too deep, where it stops is within it -/
def lnOk (n : Nat) : LnOut → Prop
  | .ok r p => okB 4 r ∧ p ≤ n + 3
  | .bad j => 0 ≤ j ∧ j ≤ (n : Int) + 3
theorem withW_ok {f : List Nat → PyData} {most : Nat} {adj : PyData → PyData → Bool} (w : List Nat) (ws : List (List Nat)) (hf : ∀ w, isNone (f w) = false → okB 2 (f w)) (hm : most ≤ 5000) : lnOk (w :: ws).length (withW w (outP (partsGo f most adj [] 1 ws) (w :: ws).length)) := by
  have := partsGo_in (most := most) (adj := adj) (G := okB 2) hf ws [] 1 (fun d hd => (by cases hd)) (by simp)
  cases e : partsGo f most adj [] 1 ws with
  | inl l =>
    rw [e] at this
    refine ⟨⟨by simp, fun d hd => ?_⟩, by omega⟩
    simp only [List.mem_cons, List.not_mem_nil, or_false] at hd
    rcases hd with z | z
    · subst z
      exact True.intro
    · subst z
      exact ⟨by have := this.2; omega, this.1⟩
  | inr j =>
    rw [e] at this
    dsimp only at this
    refine ⟨by omega, ?_⟩
    rw [List.length_cons]
    omega
theorem crowdGo_ok (ws : List (List Nat)) : lnOk ws.length (crowdGo 1 ws) := by
  unfold crowdGo
  split
  · exact ⟨by omega, by omega⟩
  · split
    · rename_i n e
      split
      · rename_i hn
        split
        · exact ⟨by omega, by omega⟩
        · split
          · rename_i ns e3
            split
            · rename_i hl
              obtain ⟨_, hg, _⟩ := listOf_rise e3
              refine ⟨⟨by simp, fun d hd => ?_⟩, by omega⟩
              simp only [List.mem_cons, List.not_mem_nil, or_false] at hd
              rcases hd with z | z | z
              · subst z
                exact True.intro
              · subst z
                exact okB_gr (numOf_gr e)
              · subst z
                exact okR_ints (by have := of_decide_eq_true hl; omega) hg
            · exact ⟨by omega, by omega⟩
          · exact ⟨by omega, by omega⟩
      · exact ⟨by omega, by omega⟩
    · exact ⟨by omega, by omega⟩
theorem readLine_ok (ws : List (List Nat)) : lnOk ws.length (readLine ws) := by
  unfold readLine
  split
  · exact ⟨by omega, by omega⟩
  · rename_i w r
    split
    · exact withW_ok w r (fun w => rowOf_ok) (by decide)
    · split
      · exact crowdGo_ok _
      · split
        · exact withW_ok w r (fun w => tieOf_ok) (by decide)
        · split
          · exact withW_ok w r (fun w => setOf_ok) (by decide)
          · split
            · exact withW_ok w r (fun w => idxOf_ok) (by decide)
            · exact ⟨by omega, by omega⟩
theorem okR_int {m : Nat} {i : Int} (h : i.natAbs < 2 ^ 100) : okB m (.int i) := by cases m <;> exact h
theorem okB_wl {m : Nat} {i j : Int} (hi : i.natAbs < 2 ^ 100) (hj : j.natAbs < 2 ^ 100) : okB (m + 1) (wl i j) := by
  refine ⟨by simp, fun d hd => ?_⟩
  simp only [List.mem_cons, List.not_mem_nil, or_false] at hd
  rcases hd with z | z
  · subst z
    exact okR_int hi
  · subst z
    exact okR_int hj
theorem okB_two {m : Nat} {x : Str} {d : PyData} (h : okB m d) : okB (m + 1) (.tuple [.str x, d]) := by
  refine ⟨by simp, fun e he => ?_⟩
  simp only [List.mem_cons, List.not_mem_nil, or_false] at he
  rcases he with z | z
  · subst z
    cases m <;> exact True.intro
  · subst z
    exact h
theorem okB_read {l : List Nat} (h : l.length ≤ 1000000) : okB 5 (encP (readP l)) := by
  unfold readP
  split
  · exact okB_two (okR_int (by omega))
  · split
    · exact okB_two (okB_wl (by decide) (by decide))
    · rename_i l0 rest e
      have h0 := spl_mem_len 10 l [] l0 (by rw [e]; exact List.mem_cons_self ..)
      have h1 := spl_len1 32 l0 []
      have h2 := readLine_ok (TL.spl [32] 0 [] l0)
      simp only [List.length_nil] at h0
      split
      · rename_i j ej
        rw [ej] at h2
        obtain ⟨a, b⟩ := h2
        exact okB_two (okB_wl (by decide) (by omega))
      · rename_i r p ej
        rw [ej] at h2
        obtain ⟨a, b⟩ := h2
        split
        · split
          · exact okB_two (okB_wl (by decide) (by decide))
          · exact okB_two a
        · exact okB_two (okB_wl (by decide) (by omega))
theorem okB_up {m : Nat} {d : PyData} (h : okB m d) : okB (m + 1) d := by
  induction m generalizing d with
  | zero => cases d <;> first | exact h | exact h.elim
  | succ k ih => cases d <;> first | exact h | exact ⟨h.1, fun e he => ih (h.2 e he)⟩
end Fd
-- Kr
/-! What was heard, set beside what is owed. -/
namespace Fd
open PySem PySem.Spec PyProof.Rows L2 LamX NdefX
section
variable {W : Wd} {K : PySem.W.Frag} {σ : L2.St} {H H0 : Hp} {te ta tb : TE} {tr : TA} {d : PyData} {ds : List PyData} {xs : List V} {D : Ends} {u : TS}
theorem app_then {i : Nat} {p : Addr} (e : σ[i]? = some (some (.ref p))) (x : Wx W H0 H) (hn : H0 p = none) (hp : H p = some (.lst xs)) (hr : Rps K H ds xs) (h : Ev W K te σ H d) (hl : ds.length ≤ 1000000)
    (k : ∀ H' xs', Wx W H0 H' → H' p = some (.lst xs') → Rps K H' (ds ++ [d]) xs' → u D σ H') : tSeq (tDrop (tBM K "list" rAppend (tVar i) (tCons te tNil))) u D σ H := by
  have np : ¬ W.M p := Wx.nM x.1 hn
  refine ⟨.ref p, e, .inl ⟨rfl, _, SqL.of hp⟩, ?_⟩
  refine h H (Wx.refl x.2.1) _ fun v H2 x2 r => ?_
  have hp2 := x2.2.2 _ _ hp np
  have kt : KeepT H2 (upd H2 p (.lst (xs ++ [v]))) := KeepT.mut hp2 rfl
  exact ⟨p, xs, v, rfl, rfl, hp2, by rw [hr.len]; exact Nat.lt_of_lt_of_le (Nat.lt_succ_of_le hl) (by decide), k _ _ (Wx.mut (x.trans x2) hn hp2 rfl) upd_same ((Rps.mono kt _ _ (x2.rps hr)).app (Rps.one (Rp.mono kt _ _ r)))⟩
/-- _law_like(name of a list, display) -/
theorem ev_likeL {i m : Nat} {p : Addr} (e : σ[i]? = some (some (.ref p))) (np : ¬ W.M p) (hp : H p = some (.lst xs)) (hr : Rps K H ds xs) (h : EvA W K tr σ H ds) (hl : ds.length ≤ 5000) (hok : ∀ d ∈ ds, okB m d) :
    Ev W K (tCall (spLike K (m + 2)) [] E0 (tCons (tVar i) (tCons (tLst tr) tNil))) σ H (.bool true) := fun H1 x Q kq =>
  ⟨.ref p, e, lst_run (Q := fun v H2 => spLike K (m + 2) [.ref p, v] H2 Q E0) x.2.1 (fun H2 x2 => h H2 (x.trans x2)) (by omega) fun q H2 ys x2 hq0 hq hs =>
    ⟨.list ds, .ref p, .ref q, rfl, .inl ⟨ds, p, xs, rfl, rfl, x2.2.2 _ _ (x.2.2 _ _ hp np) np, (x.trans x2).rps hr⟩, .inl ⟨ds, q, ys, rfl, rfl, hq, hs⟩, .inl ⟨m, ds, rfl, rfl, hl, hok⟩, fun H3 s3 => kq _ H3 (x2.trans (Wx.same x2.2.1 s3)) (rp_bl.mpr rfl)⟩⟩
/-- .. of two of plain data -/
theorem ev_like {m : Nat} (h1 : Ev W K ta σ H d) (h2 : Ev W K tb σ H d) (hok : okB m d) : Ev W K (tCall (spLike K (m + 1)) [] E0 (tCons ta (tCons tb tNil))) σ H (.bool true) := fun H1 x Q kq =>
  h1 H1 x _ fun v1 H2 x2 r1 => h2 H2 (x.trans x2) _ fun v2 H3 x3 r2 => ⟨d, v1, v2, rfl, .inr (x3.rp r1), .inr r2, .inr hok, fun H4 s4 => kq _ H4 (x2.trans (x3.trans (Wx.same x3.2.1 s4))) (rp_bl.mpr rfl)⟩
theorem skip_then {t1 : TS} (j : W.J H) (h : Ev W K te σ H (.bool true)) (k : ∀ H', Wx W H H' → u D σ H') : tSeq (tIfS (tNot (tB te)) t1 tNext) u D σ H :=
  if_then (W := W) j (et_not (et_B h)) (fun z => by cases z) fun _ => k
theorem skip_last {t1 : TS} (j : W.J H) (h : Ev W K te σ H (.bool true)) (k : ∀ H', Wx W H H' → D.nx σ H') : tIfS (tNot (tB te)) t1 tNext D σ H :=
  st_if (W := W) j (et_not (et_B h)) (fun z => by cases z) fun _ H' x => k H' x
end
section
variable {TT : List NTab} {j : Addr} {K : PySem.W.Frag} {σ : L2.St} {H H' : Hp} {te : TE}
theorem gw_tw (g : (GW TT j).J H) (x : Wx (TW TT) H H') : Wx (GW TT j) H H' := by
  refine ⟨g, ⟨?_, x.2.1⟩, fun b o e n => x.2.2 b o e fun z => n (.inr z)⟩
  obtain ⟨⟨a, b, e, ok⟩, t⟩ := g
  refine ⟨a, b, x.2.2 _ _ e fun ⟨p, hp, z⟩ => ?_, ok⟩
  obtain ⟨ps, h1, _⟩ := t p hp
  rw [z, e] at h1
  cases h1
theorem ev_txRead {l : List Nat} {E : XK} (h : Ev (GW TT j) K te σ H (.str (S l))) (hl : l.length ≤ 400000) : Ev (GW TT j) K (tCall (spTxRead K TT) [] E (tCons te tNil)) σ H (encP (readP l)) := fun H1 x Q k =>
  h H1 x _ fun v H2 x2 r => ⟨l, by rw [rp_str.mp r]; rfl, hl, x2.2.1.2, fun v' H3 x3 r3 => k v' H3 (x2.trans (gw_tw x2.2.1 x3)) r3⟩
end
end Fd
-- K4
namespace Fd
open PySem PySem.Spec PyProof.Rows L2 LamX NdefX
abbrev nmC (x : String) : Nat → Nat → Str := fun _ _ => Str.ofString (x ++ ".<locals>.<lambda>")
section
variable {P : Program} {w : World} {K : PySem.W.Frag} {mg : Str → Option Value} {base : Heap} {TT : List NTab} {Pt Pr : Addr}
theorem cd__law_paper_right (Z : Tz K mg) (M : XMs K mg) (TR : AtC K mg base "_law_tx_read_paper" s__law_tx_read_paper Pr) (hmR : (Pr, fun _ _ => Str.ofString "_law_tx_read_paper.<locals>.<lambda>") ∈ TT) (huR : ∀ p ∈ TT, p.1 = Pr → p.2 = fun _ _ => Str.ofString "_law_tx_read_paper.<locals>.<lambda>")
    (TC : AtC K mg base "_law_paper_right" s__law_paper_right Pt) (hmT : (Pt, fun _ _ => Str.ofString "_law_paper_right.<locals>.<lambda>") ∈ TT) (hu : ∀ p ∈ TT, p.1 = Pt → p.2 = fun _ _ => Str.ofString "_law_paper_right.<locals>.<lambda>") :
    Cd P w K mg base CX0 13 "_law_paper_right" (SpJ K TT fun ds Pd => ∃ d, ds = [d] ∧ isDrawn d ∧ Pd = (· = .bool true)) := by
  have T : Tx K mg := Z.toTx
  refine cdc_of (k := 12) TC sc__law_paper_right (fun _ _ _ _ _ _ us hl => match us, hl with | [_, _], _ => rfl) (SpJ.len fun ds r h => by obtain ⟨_, e, _⟩ := h; rw [e]; rfl) ?_
  intro f c A outer s H vs Q E TB hr ⟨j, us, ds, Pd, e, g, hs, ⟨d, e1, hd, e2⟩, kk⟩
  subst e e1 e2
  obtain ⟨v0, e, r0⟩ := rps1 hs
  subst e
  refine ⟨_, (pss_cons (ps_set (i := 2) sc__law_paper_right.nd rfl (Or.inr rfl) (pe_d (cd__law_tx_paper T) hr (by decide) (pa_cons (pv 1) pa_nil)))
    (pss_cons (ps_set (i := 3) sc__law_paper_right.nd rfl (Or.inl rfl) (pe_lst (pa_cons (pe_heard Z M (by rfl) TB rfl hmT rfl hu (k := 10) (hr.mono (by decide)) (lamS_at (sc := defScope s__law_paper_right) (by decide +kernel)) rfl (fun _ _ _ _ _ => rfl) (fun _ _ _ _ _ _ _ hr => (pe_dX (cd_paper_text Z) hr (by decide) (takes_of rfl rfl rfl rfl) (pa_cons (pv 1) pa_nil)))) pa_nil)))
    (pss_cons (ps_expr (pe_bm PySem.F.plainAttrs_list PySem.F.slot_list_append PySem.F.type_list_append mt_append (pv 3) (pa_cons (pe_heard Z M (by rfl) TB rfl hmT rfl hu (k := 10) (hr.mono (by decide)) (lamS_at (sc := defScope s__law_paper_right) (by decide +kernel)) rfl (fun _ _ _ _ _ => rfl) (fun _ _ _ _ _ _ _ hr => (pe_dX (cd_read_paper Z) hr (by decide) (takes_of rfl rfl rfl rfl) (pa_cons (pv 2) pa_nil)))) pa_nil)))
    (pss_cons (ps_if (pt_not (pt_val (pe_d (cd__law_like T 7) hr (by decide) (pa_cons (pv 3) (pa_cons (pe_lst (pa_cons (pe_tup (pa_cons pe_str (pa_cons (pv 2) pa_nil))) (pa_cons (pe_tup (pa_cons pe_str (pa_cons (pv 1) pa_nil))) pa_nil))) pa_nil)))))
      (pss_one (ps_ret pe_bl)) pss_nil)
    (pss_cons (ps_for PassesOwn.never rfl (pi_range1 (by rfl) T.n_range (pa_cons pe_int pa_nil)) (pg_name (i := 4) sc__law_paper_right.nd rfl (Or.inl rfl))
      (pss_cons (ps_set (i := 2) sc__law_paper_right.nd rfl (Or.inr rfl) (pe_d (cd__law_text_bent (TT := TT) T) hr (by decide) (pa_cons (pv 0) (pa_cons (pv 2) pa_nil))))
      (pss_one (ps_if (pt_not (pt_val (pe_d (cd__law_like T 7) hr (by decide) (pa_cons (pe_heard Z M (by rfl) TB rfl hmT rfl hu (k := 10) (hr.mono (by decide)) (lamS_at (sc := defScope s__law_paper_right) (by decide +kernel)) rfl (fun _ _ _ _ _ => rfl) (fun _ _ _ _ _ _ _ hr => (pe_dX (cd_read_paper Z) hr (by decide) (takes_of rfl rfl rfl rfl) (pa_cons (pv 2) pa_nil)))) (pa_cons (pe_d (cd__law_tx_read_paper T TR hmR huR) hr (by decide) (pa_cons (pv 2) pa_nil)) pa_nil)))))
        (pss_one (ps_ret pe_bl)) pss_nil))))
    (pss_cons (ps_for PassesOwn.never rfl (pi_range1 (by rfl) T.n_range (pa_cons pe_int pa_nil)) (pg_name (i := 4) sc__law_paper_right.nd rfl (Or.inl rfl))
      (pss_cons (ps_set (i := 5) sc__law_paper_right.nd rfl (Or.inr rfl) (pe_d (cd__law_bent (TT := TT) T 5) hr (by decide) (pa_cons (pv 0) (pa_cons (pv 1) pa_nil))))
      (pss_cons (ps_set (i := 6) sc__law_paper_right.nd rfl (Or.inl rfl) (pe_ifExp (pt_val (pe_d (cd__law_is_paper_of T) hr (by decide) (pa_cons (pv 5) pa_nil))) (pe_tup (pa_cons pe_str (pa_cons (pe_d (cd__law_tx_paper T) hr (by decide) (pa_cons (pv 5) pa_nil)) pa_nil))) (pe_tup (pa_cons pe_str (pa_cons pe_int pa_nil)))))
      (pss_one (ps_if (pt_not (pt_val (pe_d (cd__law_like T 7) hr (by decide) (pa_cons (pe_heard Z M (by rfl) TB rfl hmT rfl hu (k := 10) (hr.mono (by decide)) (lamS_at (sc := defScope s__law_paper_right) (by decide +kernel)) rfl (fun _ _ _ _ _ => rfl) (fun _ _ _ _ _ _ _ hr => (pe_dX (cd_paper_text Z) hr (by decide) (takes_of rfl rfl rfl rfl) (pa_cons (pv 5) pa_nil)))) (pa_cons (pv 6) pa_nil)))))
        (pss_one (ps_ret pe_bl)) pss_nil)))))
    (pss_one (ps_ret pe_bl)))))))), ?_⟩
  have hpos : (paperW d).length ≤ 400000 := by have := hd.2; omega
  refine set_then (W := GW TT j) (p := VP.d (GW TT j) K (.str (S (paperW d)))) g (ev_call (ea_cons (ev_var rfl r0) ea_nil) ⟨d, rfl, rfl, txOk_of hd.1⟩) fun v2 H1 x1 r2 => ?_
  replace r0 := x1.rp r0
  refine lst_then (K := K) x1.2.1 (ea_cons (ev_heard (out := .inl (.str (S (paperW d)))) (hasT_gw hmT) (tells_R (ea_cons (ev_var rfl r0) ea_nil) ⟨d, rfl, (if_pos hd.1).symm⟩) (fun _ _ z => by cases z)) ea_nil) (by simp) fun p H2 xs x2 hn hp hr2 => ?_
  refine app_then (K := K) rfl x2 hn hp hr2 (ev_heard (hasT_gw hmT) (tells_read (ea_cons (ev_var rfl (x2.rp r2)) ea_nil) (by omega)) fun x w => readP_ex) (by simp) fun H3 xs3 x3 hp3 hr3 => ?_
  rw [read_back hd.1 hpos] at hr3
  refine skip_then (K := K) x3.2.1 (ev_likeL (m := 5) rfl (Wx.nM x1.2.1 hn) hp3 hr3 (ea_cons (ev_tup (ea_cons ev_str (ea_cons (ev_var rfl (x3.rp r2)) ea_nil)) (by simp)) (ea_cons (ev_tup (ea_cons ev_str (ea_cons (ev_var rfl (x3.rp r0)) ea_nil)) (by simp)) ea_nil)) (by simp) ?_) fun H4 x4 => ?_
  · intro e he
    simp only [List.cons_append, List.nil_append, List.mem_cons, List.not_mem_nil, or_false] at he
    rcases he with z | z
    · subst z
      exact okB_two (m := 4) True.intro
    · subst z
      exact okB_two (okB_paper hd.1)
  have x14 := x3.trans x4
  refine forRX_then (W := GW TT j) (K := K) (mm := 6) x4.2.1 (evx_of ev_int ⟨5, rfl, by decide, by decide⟩) (by decide)
    (fun k σ' H' => ∃ (w2 : V) (o3 o4 o5 o6 : Option V) (l : List Nat), σ' = [some (.ref j), some v0, some w2, o3, o4, o5, o6] ∧ Wx (GW TT j) H1 H' ∧ Rp K H' (.str (S l)) w2 ∧ l.length + 40 ≤ 2040 * 2 ^ k)
    (fun H5 x5 => ⟨v2, _, _, _, _, paperW d, rfl, x14.trans x5, (x14.trans x5).rp r2, by have := hd.2; omega⟩) (fun k σ1 H5 hk hI => ?_) fun n σ1 H5 _ hI => ?_
  · obtain ⟨w2, o3, o4, o5, o6, l, es, x5, rt, hl⟩ := hI
    subst es
    have hk6 : 2 ^ k ≤ 32 := Nat.pow_le_pow_right (n := 2) (i := k) (j := 5) (by decide) (by omega)
    refine set_then (W := GW TT j) (p := VP.ex _ K (isTx (2 * (2040 * 2 ^ k - 40) + 40))) x5.2.1 (ev_callJ rfl (ea_cons (ev_var rfl rt) ea_nil) ⟨l, _, rfl, by omega, by omega, rfl⟩) fun v3 H6 x6 ⟨e, ⟨l', ee, hl'⟩, r3⟩ => ?_
    subst ee
    have h2 : 2 ^ (k + 1) = 2 * 2 ^ k := by rw [Nat.pow_succ]; omega
    refine skip_last (K := K) x6.2.1 (ev_like (m := 6) (ev_heard (hasT_gw hmT) (tells_read (ea_cons (ev_var rfl r3) ea_nil) (by omega)) fun x w => readP_ex) (ev_txRead (ev_var rfl r3) (by omega)) (okB_up (okB_read (by omega)))) fun H7 x7 => ?_
    exact ⟨v3, _, _, _, _, l', rfl, x5.trans (x6.trans x7), x7.rp r3, by omega⟩
  · obtain ⟨w2, o3, o4, o5, o6, l, es, x5, rt, hl⟩ := hI
    subst es
    refine forRX_then (W := GW TT j) (K := K) (mm := 4) x5.2.1 (evx_of ev_int ⟨3, rfl, by decide, by decide⟩) (by decide)
      (fun k σ' H' => ∃ (o2 o3 o4 o5 o6 : Option V), σ' = [some (.ref j), some v0, o2, o3, o4, o5, o6] ∧ Wx (GW TT j) H1 H')
      (fun H6 x6 => ⟨_, _, _, _, _, rfl, x5.trans x6⟩) (fun k σ1 H6 hk hI => ?_) fun n σ1 H6 _ hI => ?_
    · obtain ⟨o2, o3, o4, o5, o6, es, x6⟩ := hI
      subst es
      refine set_then (W := GW TT j) (p := VP.ex _ K fun _ => True) x6.2.1 (ev_callJ (f := fun ds Pd => ∃ d, ds = [d] ∧ okB 4 d ∧ Pd = fun _ => True) rfl (ea_cons (ev_var rfl (x6.rp r0)) ea_nil) ⟨d, rfl, okB_paper hd.1, rfl⟩) fun v3 H7 x7 ⟨e, _, r3⟩ => ?_
      refine set_then (W := GW TT j) (p := VP.d (GW TT j) K (if paperB e = true then .tuple [.str "told", .str (S (paperW e))] else .tuple [.str "BadPaper", .int 0])) x7.2.1 (ev_if (et_B (ev_call (ea_cons (ev_var rfl r3) ea_nil) ⟨e, rfl, rfl⟩)) (fun hb => ev_tup (ea_cons ev_str (ea_cons (ev_call (ea_cons (ev_var rfl r3) ea_nil) ⟨e, rfl, rfl, txOk_of hb⟩) ea_nil)) (by simp)) fun hb => ev_tup (ea_cons ev_str (ea_cons ev_int ea_nil)) (by simp)) fun v4 H8 x8 r4 => ?_
      have eo : (if paperB e = true then PyData.tuple [.str "told", .str (S (paperW e))] else .tuple [.str "BadPaper", .int 0]) = encP (if paperB e = true then .inl (.str (S (paperW e))) else .inr ("BadPaper", .int 0)) := by
        by_cases h : paperB e = true
        · rw [if_pos h, if_pos h]
          rfl
        · rw [if_neg h, if_neg h]
          rfl
      rw [eo] at r4
      refine skip_last (K := K) x8.2.1 (ev_like (m := 6) (ev_heard (hasT_gw hmT) (tells_R (ea_cons (ev_var rfl (x8.rp r3)) ea_nil) ⟨e, rfl, rfl⟩) fun x w z => ?_) (ev_var rfl r4) ?_) fun H9 x9 => ?_
      · by_cases h : paperB e = true
        · rw [if_pos h] at z
          cases z
        · rw [if_neg h] at z
          cases z
          decide
      · by_cases h : paperB e = true
        · rw [if_pos h]
          exact okB_two (m := 5) True.intro
        · rw [if_neg h]
          exact okB_two (m := 5) (by show (0 : Int).natAbs < 2 ^ 100; decide)
      exact ⟨_, _, _, _, _, rfl, x6.trans (x7.trans (x8.trans x9))⟩
    · obtain ⟨o2, o3, o4, o5, o6, es, x6⟩ := hI
      subst es
      exact retJ kk (x1.trans x6) (evx_of ev_bl rfl)
end
end Fd
-- M11
/-! The long text. -/
namespace Fd
open PySem PySem.Spec PyProof.Rows L2
/-- vine 0 0 0 .. -/
def longL (n : Nat) : List Nat := TL.joinL [32] ([118, 105, 110, 101] :: List.replicate n [48])
theorem longL_eq : ∀ n : Nat, TL.joinL [32] ([118, 105, 110, 101] :: List.replicate n [48]) = [118, 105, 110, 101] ++ (List.replicate n [32, 48]).flatten := by
  have go : ∀ (n : Nat) (p : List Nat), TL.joinL [32] (p :: List.replicate n [48]) = p ++ (List.replicate n [32, 48]).flatten := by
    intro n
    induction n with
    | zero => intro p; show p = p ++ []; rw [List.append_nil]
    | succ k ih =>
      intro p
      rw [List.replicate_succ, List.replicate_succ, List.flatten_cons]
      show p ++ ([32] ++ TL.joinL [32] ([48] :: List.replicate k [48])) = _
      rw [ih [48]]
      rfl
  exact fun n => go n _
theorem longL_len (n : Nat) : (longL n).length = 4 + 2 * n := by
  unfold longL
  rw [longL_eq, List.length_append, List.length_flatten, List.map_replicate, List.sum_replicate_nat]
  show 4 + n * 2 = _
  omega
theorem flat_S (n : Nat) (hn : 2 ≤ n) : S [118, 105, 110, 101] ++ Txt.mul (S [32, 48]) (n : Int) = S (longL n) := by
  refine TL.ext_tl ?_
  rw [TL.tl_append]
  unfold longL
  rw [longL_eq]
  show [118, 105, 110, 101] ++ TL.tl (Txt.mul (S [32, 48]) (n : Int)) = [118, 105, 110, 101] ++ (List.replicate n [32, 48]).flatten
  congr 1
  unfold Txt.mul
  rw [if_neg (by omega), if_neg (by
    intro z
    simp only [Bool.or_eq_true, beq_iff_eq] at z
    rcases z with z | z
    · omega
    · cases z)]
  show ((List.replicate ((n : Int)).toNat (#[32, 48] : Array Nat)).foldl (· ++ ·) #[]).toList = _
  rw [Int.toNat_natCast]
  have go : ∀ (k : Nat) (acc : Array Nat), ((List.replicate k (#[32, 48] : Array Nat)).foldl (· ++ ·) acc).toList = acc.toList ++ (List.replicate k [32, 48]).flatten := by
    intro k
    induction k with
    | zero => intro acc; simp
    | succ k ih =>
      intro acc
      rw [List.replicate_succ, List.foldl_cons, ih, List.replicate_succ, List.flatten_cons, Array.toList_append, List.append_assoc]
  rw [go]
  rfl
theorem vine_go : ∀ (n k i : Nat) (found : List PyData), found.length + k = 400 → k < n → partsGo idxOf 400 noAdj found i (List.replicate n [48]) = .inr (i + k)
  | 0, k, i, found, h, hk => by omega
  | n + 1, k, i, found, h, hk => by
    rw [List.replicate_succ, partsGo]
    have e : idxOf [48] = PyData.int 0 := by
      unfold idxOf
      rw [show numOf [48] = some 0 by decide +kernel]
      rfl
    have ft : fits noAdj found (idxOf [48]) = true := by
      unfold fits
      cases found.getLast? <;> rfl
    rw [ft, e]
    cases k with
    | zero =>
      rw [if_neg (by rw [decide_eq_false (by omega)]; decide)]
      rfl
    | succ k =>
      rw [if_pos (by rw [decide_eq_true (by omega)]; rfl)]
      rw [vine_go n k (i + 1) (found ++ [PyData.int 0]) (by rw [List.length_append, List.length_singleton]; omega) (by omega)]
      congr 1
      omega
theorem long_words {n : Nat} : TL.spl [32] 0 [] (longL n) = [118, 105, 110, 101] :: List.replicate n [48] := SX.spl_join (by simp) fun p hp => by
  rcases List.mem_cons.mp hp with e | e
  · subst e
    decide
  · rw [(List.mem_replicate.mp e).2]
    decide
theorem long_line {n : Nat} : TL.spl [10] 0 [] (longL n) = [longL n] := by
  have h : (10 : Nat) ∉ longL n := by
    unfold longL
    rw [longL_eq]
    intro z
    rcases List.mem_append.mp z with z | z
    · revert z
      decide
    · obtain ⟨w, hw, hz⟩ := List.mem_flatten.mp z
      rw [(List.mem_replicate.mp hw).2] at hz
      revert hz
      decide
  have := SX.spl_join (c := 10) (sep := []) (parts := [longL n]) (by simp) fun p hp => by
    rw [List.mem_singleton.mp hp]
    exact h
  exact this
theorem read_long {n : Nat} (h : 400 < n) (hn : 4 + 2 * n ≤ 400000) : readP (longL n) = .inr ("WrongLine", wl 0 401) := by
  unfold readP
  rw [if_neg (by rw [longL_len]; omega), long_line]
  dsimp only
  rw [long_words]
  have e : readLine ([118, 105, 110, 101] :: List.replicate n [48]) = .bad 401 := by
    unfold readLine
    dsimp only
    rw [if_neg (by decide +kernel), if_neg (by decide +kernel), if_neg (by decide +kernel), if_neg (by decide +kernel), if_pos (by decide +kernel), vine_go n 400 1 [] rfl h]
    rfl
  rw [e]
theorem read_far {l : List Nat} (h : l.length = 400001) : readP l = .inr ("TooMany", .int 400001) := by
  unfold readP
  rw [if_pos (by omega), h]
  rfl
theorem read_empty : readP [] = .inr ("WrongLine", wl 0 0) := by
  unfold readP
  rw [if_neg (by decide)]
  have e : TL.spl [10] 0 [] [] = [[]] := by rw [TL.spl_nil]
  have e2 : TL.spl [32] 0 [] [] = [[]] := by rw [TL.spl_nil]
  rw [e]
  dsimp only
  rw [e2]
  have e3 : readLine [[]] = .bad 0 := by
    unfold readLine
    dsimp only
    rw [if_neg (by decide +kernel), if_neg (by decide +kernel), if_neg (by decide +kernel), if_neg (by decide +kernel), if_neg (by decide +kernel)]
  rw [e3]
theorem read_match : readP [109, 97, 116, 99, 104] = .inl (.tuple [.str "match", .tuple []]) := by
  have h := read_back (d := .tuple [.str "match", .tuple []]) (by decide +kernel) (by decide +kernel)
  have e : paperW (.tuple [.str "match", .tuple []]) = [109, 97, 116, 99, 104] := by decide +kernel
  rw [e] at h
  exact h
end Fd
-- K5r
/-! text * int, _law_one of anything. -/
namespace Fd
open PySem PySem.Spec PyProof.Rows L2 LamX NdefX
def rMulS : R2 := fun x y H Q => ∃ (i : Str) (n : Int), x = .str i ∧ y = .int n ∧ MulOk i n ∧ Q (.str (Txt.mul i n)) H
theorem op_mulS {X : Cx} : OpR X (binaryOp .Mult) rMulS := by
  intro pins s σ H x y v u Q I rx ry h
  obtain ⟨i, n, rfl, rfl, hz, q⟩ := h
  obtain ⟨t, rfl⟩ := rx
  obtain ⟨t', rfl⟩ := ry
  exact SB.mul hz (fun t' k => ⟨.str (Txt.mul i n), H, I.tok _, ⟨_, rfl⟩, q⟩)
theorem ev_mulS {W : Wd} {K : PySem.W.Frag} {ta tb : TE} {σ : L2.St} {H : Hp} {a : Str} {n : Int} (ha : Ev W K ta σ H (.str a)) (hb : Ev W K tb σ H (.int n)) (hm : MulOk a n) : Ev W K (tOp rMulS ta tb) σ H (.str (Txt.mul a n)) := fun H1 x Q k =>
  ha H1 x _ fun v H2 x2 r1 => hb H2 (x.trans x2) _ fun u H3 x3 r2 => ⟨a, n, rp_str.mp r1, rp_int.mp r2, hm, k _ H3 (x2.trans x3) (rp_str.mpr rfl)⟩
/-- _law_one(jar, things), whatever the things are -/
def spOneV (K : PySem.W.Frag) (TT : List NTab) : Sp := fun vs H Q _ => ∃ (j p : Addr) (xs : List V), vs = [.ref j, .ref p] ∧ (GW TT j).J H ∧ H p = some (.lst xs) ∧ ¬ (GW TT j).M p ∧ xs ≠ [] ∧ xs.length < 1000000 ∧
  ∀ v ∈ xs, ∀ H', Wx (GW TT j) H H' → Q v H'
section
variable {P : Program} {w : World} {K : PySem.W.Frag} {mg : Str → Option Value} {base : Heap} {TT : List NTab}
theorem cd__law_oneV (T : Tx K mg) : Cd P w K mg base CX0 2 "_law_one" (spOneV K TT) := by
  refine cd_of (k := 1) T.d__law_one sc__law_one (fun _ _ _ _ _ _ us hl => match us, hl with | [_, _], _ => rfl) (fun vs H Q E h => by obtain ⟨_, _, _, e, _⟩ := h; rw [e]; rfl) ?_
  intro f cdv A outer s H vs Q E hr ⟨j, p, xs, e, g, hp, np, hne, hl, kk⟩
  subst e
  refine ⟨_, (pss_one (ps_ret (pe_ix (ixL K) (pv 1) (pe_d (cd__law_take T) hr (by decide) (pa_cons (pv 0) (pa_cons (pe_callB (kLen K) (by rfl) T.n_len PySem.boot_len (pa_cons (pv 1) pa_nil)) pa_nil))) (fun _ _ => rfl)))), ?_⟩
  have hpos : 1 ≤ xs.length := by
    cases xs with
    | nil => exact (hne rfl).elim
    | cons _ _ => simp
  have el : Ev (GW TT j) K (tCB (fun xs H Q => ∃ x n, xs = [x] ∧ LenV K x H n ∧ Q (.int n) H) (tCons (tVar 1) tNil)) [some (.ref j), some (.ref p)] H (.int (xs.length : Nat)) := fun H1 x Q k =>
    ⟨_, rfl, _, _, rfl, .inl ⟨xs, SqL.of (x.2.2 _ _ hp np), rfl⟩, k _ H1 (Wx.refl x.2.1) (rp_int.mpr rfl)⟩
  refine ⟨_, rfl, (ev_take (TT := TT) (j := j) (i := 0) rfl el (by omega) (by omega)).run g fun v H1 x1 ⟨d, ⟨i, ei, h0, h1⟩, r⟩ => ?_⟩
  subst ei
  obtain rfl := rp_int.mp r
  have hi : i.toNat < xs.length := by omega
  have hat : atI xs i = some xs[i.toNat] := by
    unfold atI
    have := ixN_nat (n := xs.length) (j := i.toNat) hi
    rw [show ((i.toNat : Nat) : Int) = i by omega] at this
    rw [this]
    exact List.getElem?_eq_getElem hi
  exact .inl ⟨p, xs, i, _, rfl, rfl, SqL.of (x1.2.2 _ _ hp np), hat, kk _ (List.getElem_mem hi) H1 x1⟩
end
end Fd
-- K5
namespace Fd
open PySem PySem.Spec PyProof.Rows L2 LamX NdefX
/-- what is no text -/
def oddXs (t1 l1 t2 : Addr) : List V := [.non, .int 5, .ref t1, .ref l1, .bl true, .ref t2]
theorem odd_not {K : PySem.W.Frag} {H : Hp} {t1 l1 t2 : Addr} {v : V} (h1 : Rp K H (.tuple [.str "vine"]) (.ref t1)) (h2 : H l1 = some (.lst [.str "vine"])) (h3 : Rp K H (.tuple []) (.ref t2)) (hv : v ∈ oddXs t1 l1 t2) : NotS K H v := by
  unfold oddXs at hv
  simp only [List.mem_cons, List.not_mem_nil, or_false] at hv
  rcases hv with e | e | e | e | e | e
  · subst e
    exact .inl ⟨.none, rp_non.mpr rfl, rfl⟩
  · subst e
    exact .inl ⟨.int 5, rp_int.mpr rfl, rfl⟩
  · subst e
    exact .inl ⟨_, h1, rfl⟩
  · subst e
    exact .inr ⟨l1, _, rfl, h2⟩
  · subst e
    exact .inl ⟨.bool true, rp_bl.mpr rfl, rfl⟩
  · subst e
    exact .inl ⟨_, h3, rfl⟩
theorem flatS_len (n : Nat) (hn : 2 ≤ n) : (S [118, 105, 110, 101]).length + (Txt.mul (S [32, 48]) (n : Int)).length = 4 + 2 * n := by
  have h := congrArg Str.length (flat_S n hn)
  rw [S_len (longL n), longL_len] at h
  have e : ∀ a b : Str, (a ++ b).length = a.length + b.length := fun a b => by rw [TL.len_tl, TL.tl_append, List.length_append, ← TL.len_tl, ← TL.len_tl]
  rw [e] at h
  exact h
theorem S_add (a b : List Nat) : S a ++ S b = S (a ++ b) := TL.ext_tl (by rw [TL.tl_append])
section
variable {P : Program} {w : World} {K : PySem.W.Frag} {mg : Str → Option Value} {base : Heap} {TT : List NTab} {Pt Pr : Addr}
theorem cd__law_bounds_right (Z : Tz K mg) (M : XMs K mg) (TR : AtC K mg base "_law_tx_read_paper" s__law_tx_read_paper Pr) (hmR : (Pr, fun _ _ => Str.ofString "_law_tx_read_paper.<locals>.<lambda>") ∈ TT) (huR : ∀ p ∈ TT, p.1 = Pr → p.2 = fun _ _ => Str.ofString "_law_tx_read_paper.<locals>.<lambda>")
    (TC : AtC K mg base "_law_bounds_right" s__law_bounds_right Pt) (hmT : (Pt, fun _ _ => Str.ofString "_law_bounds_right.<locals>.<lambda>") ∈ TT) (hu : ∀ p ∈ TT, p.1 = Pt → p.2 = fun _ _ => Str.ofString "_law_bounds_right.<locals>.<lambda>") :
    Cd P w K mg base CX0 13 "_law_bounds_right" (SpJ K TT fun ds Pd => ds = [] ∧ Pd = (· = .bool true)) := by
  have T : Tx K mg := Z.toTx
  refine cdc_of (k := 12) TC sc__law_bounds_right (fun _ _ _ _ _ _ us hl => match us, hl with | [_], _ => rfl) (SpJ.len fun ds r h => by obtain ⟨e, _⟩ := h; rw [e]; rfl) ?_
  intro f c A outer s H vs Q E TB hr ⟨j, us, ds, Pd, e, g, hs, ⟨e1, e2⟩, kk⟩
  subst e e1 e2
  obtain rfl := rps_nil.mp hs
  refine ⟨_, (pss_cons (ps_asg (pe_d (cd__law_most_of (TT := TT) T) hr (by decide) (pa_cons (pv 0) pa_nil)) (pg_tup rfl (pgs_cons (pg_name (i := 1) sc__law_bounds_right.nd rfl (Or.inr rfl)) (pgs_cons (pg_name (i := 2) sc__law_bounds_right.nd rfl (Or.inr rfl)) pgs_nil))))
    (pss_cons (ps_asg (pe_tup (pa_cons (pe_d (cd__law_tx_paper T) hr (by decide) (pa_cons (pv 1) pa_nil)) (pa_cons (pe_d (cd__law_tx_paper T) hr (by decide) (pa_cons (pv 2) pa_nil)) pa_nil))) (pg_tup rfl (pgs_cons (pg_name (i := 3) sc__law_bounds_right.nd rfl (Or.inr rfl)) (pgs_cons (pg_name (i := 4) sc__law_bounds_right.nd rfl (Or.inr rfl)) pgs_nil))))
    (pss_cons (ps_set (i := 5) sc__law_bounds_right.nd rfl (Or.inl rfl) (pe_lst (pa_cons (pe_heard Z M (by rfl) TB rfl hmT rfl hu (k := 10) (hr.mono (by decide)) (lamS_at (sc := defScope s__law_bounds_right) (by decide +kernel)) rfl (fun _ _ _ _ _ => rfl) (fun _ _ _ _ _ _ _ hr => (pe_dX (cd_paper_text Z) hr (by decide) (takes_of rfl rfl rfl rfl) (pa_cons (pv 1) pa_nil)))) pa_nil)))
    (pss_cons (ps_expr (pe_bm PySem.F.plainAttrs_list PySem.F.slot_list_append PySem.F.type_list_append mt_append (pv 5) (pa_cons (pe_heard Z M (by rfl) TB rfl hmT rfl hu (k := 10) (hr.mono (by decide)) (lamS_at (sc := defScope s__law_bounds_right) (by decide +kernel)) rfl (fun _ _ _ _ _ => rfl) (fun _ _ _ _ _ _ _ hr => (pe_dX (cd_read_paper Z) hr (by decide) (takes_of rfl rfl rfl rfl) (pa_cons (pv 3) pa_nil)))) pa_nil)))
    (pss_cons (ps_expr (pe_bm PySem.F.plainAttrs_list PySem.F.slot_list_append PySem.F.type_list_append mt_append (pv 5) (pa_cons (pe_heard Z M (by rfl) TB rfl hmT rfl hu (k := 10) (hr.mono (by decide)) (lamS_at (sc := defScope s__law_bounds_right) (by decide +kernel)) rfl (fun _ _ _ _ _ => rfl) (fun _ _ _ _ _ _ _ hr => (pe_dX (cd_paper_text Z) hr (by decide) (takes_of rfl rfl rfl rfl) (pa_cons (pv 2) pa_nil)))) pa_nil)))
    (pss_cons (ps_expr (pe_bm PySem.F.plainAttrs_list PySem.F.slot_list_append PySem.F.type_list_append mt_append (pv 5) (pa_cons (pe_heard Z M (by rfl) TB rfl hmT rfl hu (k := 10) (hr.mono (by decide)) (lamS_at (sc := defScope s__law_bounds_right) (by decide +kernel)) rfl (fun _ _ _ _ _ => rfl) (fun _ _ _ _ _ _ _ hr => (pe_dX (cd_read_paper Z) hr (by decide) (takes_of rfl rfl rfl rfl) (pa_cons (pv 4) pa_nil)))) pa_nil)))
    (pss_cons (ps_if (pt_not (pt_val (pe_d (cd__law_like T 7) hr (by decide) (pa_cons (pv 5) (pa_cons (pe_lst (pa_cons (pe_tup (pa_cons pe_str (pa_cons (pv 3) pa_nil))) (pa_cons (pe_tup (pa_cons pe_str (pa_cons (pv 1) pa_nil))) (pa_cons (pe_tup (pa_cons pe_str (pa_cons pe_int pa_nil))) (pa_cons (pe_d (cd__law_tx_read_paper T TR hmR huR) hr (by decide) (pa_cons (pv 4) pa_nil)) pa_nil))))) pa_nil)))))
      (pss_one (ps_ret pe_bl)) pss_nil)
    (pss_cons (ps_asg (pe_tup (pa_cons (pe_d (cd__law_oneV (TT := TT) T) hr (by decide) (pa_cons (pv 0) (pa_cons (pe_lst (pa_cons pe_non (pa_cons pe_int (pa_cons (pe_tup (pa_cons pe_str pa_nil)) (pa_cons (pe_lst (pa_cons pe_str pa_nil)) (pa_cons pe_bl (pa_cons (pe_tup pa_nil) pa_nil))))))) pa_nil))) (pa_cons (pe_op op_add_str pe_str (pe_op op_mulS pe_str pe_int)) pa_nil))) (pg_tup rfl (pgs_cons (pg_name (i := 6) sc__law_bounds_right.nd rfl (Or.inr rfl)) (pgs_cons (pg_name (i := 7) sc__law_bounds_right.nd rfl (Or.inr rfl)) pgs_nil))))
    (pss_cons (ps_set (i := 5) sc__law_bounds_right.nd rfl (Or.inl rfl) (pe_lst (pa_cons (pe_heard Z M (by rfl) TB rfl hmT rfl hu (k := 10) (hr.mono (by decide)) (lamS_at (sc := defScope s__law_bounds_right) (by decide +kernel)) rfl (fun _ _ _ _ _ => rfl) (fun _ _ _ _ _ _ _ hr => (pe_dX (cd_read_paper Z) hr (by decide) (takes_of rfl rfl rfl rfl) (pa_cons (pv 6) pa_nil)))) pa_nil)))
    (pss_cons (ps_expr (pe_bm PySem.F.plainAttrs_list PySem.F.slot_list_append PySem.F.type_list_append mt_append (pv 5) (pa_cons (pe_heard Z M (by rfl) TB rfl hmT rfl hu (k := 10) (hr.mono (by decide)) (lamS_at (sc := defScope s__law_bounds_right) (by decide +kernel)) rfl (fun _ _ _ _ _ => rfl) (fun _ _ _ _ _ _ _ hr => (pe_dX (cd_read_paper Z) hr (by decide) (takes_of rfl rfl rfl rfl) (pa_cons (pv 7) pa_nil)))) pa_nil)))
    (pss_cons (ps_expr (pe_bm PySem.F.plainAttrs_list PySem.F.slot_list_append PySem.F.type_list_append mt_append (pv 5) (pa_cons (pe_heard Z M (by rfl) TB rfl hmT rfl hu (k := 10) (hr.mono (by decide)) (lamS_at (sc := defScope s__law_bounds_right) (by decide +kernel)) rfl (fun _ _ _ _ _ => rfl) (fun _ _ _ _ _ _ _ hr => (pe_dX (cd_read_paper Z) hr (by decide) (takes_of rfl rfl rfl rfl) (pa_cons (pe_op op_add_str (pv 7) pe_str) pa_nil)))) pa_nil)))
    (pss_one (ps_ret (pe_d (cd__law_like T 7) hr (by decide) (pa_cons (pv 5) (pa_cons (pe_lst (pa_cons (pe_tup (pa_cons pe_str (pa_cons (pe_un un_neg pe_int) pa_nil))) (pa_cons (pe_tup (pa_cons pe_str (pa_cons (pe_tup (pa_cons pe_int (pa_cons pe_int pa_nil))) pa_nil))) (pa_cons (pe_tup (pa_cons pe_str (pa_cons pe_int pa_nil))) pa_nil)))) pa_nil)))))))))))))))), ?_⟩
  refine asg_then (W := GW TT j) (p := VP.ex _ K isMost) g (ev_callJ rfl ea_nil ⟨rfl, rfl⟩) fun v1 H1 x1 ⟨d, ⟨m, m', ed, hp, hl, htx, hnp, hl'⟩, r1⟩ => ?_
  subst ed
  refine g_pair r1 fun a b ra rb => ?_
  refine asg_then (W := GW TT j) (p := VP.d (GW TT j) K (.tuple [.str (S (paperW m)), .str (S (paperW m'))])) x1.2.1 (ev_tup (ea_cons (ev_call (ea_cons (ev_var rfl ra) ea_nil) ⟨m, rfl, rfl, txOk_of hp⟩) (ea_cons (ev_call (ea_cons (ev_var rfl rb) ea_nil) ⟨m', rfl, rfl, htx⟩) ea_nil)) (by simp)) fun v2 H2 x2 r2 => ?_
  replace ra := x2.rp ra
  replace rb := x2.rp rb
  refine g_pair r2 fun t3 t4 rt rf => ?_
  refine lst_then (K := K) x2.2.1 (ea_cons (ev_heard (out := .inl (.str (S (paperW m)))) (hasT_gw hmT) (tells_R (ea_cons (ev_var rfl ra) ea_nil) ⟨m, rfl, (if_pos hp).symm⟩) (fun _ _ z => by cases z)) ea_nil) (by simp) fun p H3 xs3 x3 hn hp3 hr3 => ?_
  refine app_then (K := K) rfl x3 hn hp3 hr3 (ev_heard (hasT_gw hmT) (tells_read (ea_cons (ev_var rfl (x3.rp rt)) ea_nil) (by omega)) fun x w => readP_ex) (by simp) fun H4 xs4 x4 hp4 hr4 => ?_
  rw [read_back hp hl] at hr4
  refine app_then (K := K) rfl x4 hn hp4 hr4 (ev_heard (out := .inr ("BadPaper", .int 0)) (hasT_gw hmT) (tells_R (ea_cons (ev_var rfl (x4.rp rb)) ea_nil) ⟨m', rfl, (if_neg (by rw [hnp]; decide)).symm⟩) (fun _ _ z => by cases z; decide)) (by simp) fun H5 xs5 x5 hp5 hr5 => ?_
  refine app_then (K := K) rfl x5 hn hp5 hr5 (ev_heard (hasT_gw hmT) (tells_read (ea_cons (ev_var rfl (x5.rp rf)) ea_nil) (by omega)) fun x w => readP_ex) (by simp) fun H6 xs6 x6 hp6 hr6 => ?_
  refine skip_then (K := K) x6.2.1 (ev_likeL (m := 5) rfl (Wx.nM x2.2.1 hn) hp6 hr6 (ea_cons (ev_tup (ea_cons ev_str (ea_cons (ev_var rfl (x6.rp rt)) ea_nil)) (by simp)) (ea_cons (ev_tup (ea_cons ev_str (ea_cons (ev_var rfl (x6.rp ra)) ea_nil)) (by simp)) (ea_cons (ev_tup (ea_cons ev_str (ea_cons ev_int ea_nil)) (by simp)) (ea_cons (ev_txRead (ev_var rfl (x6.rp rf)) hl') ea_nil)))) (by simp) ?_) fun H7 x7 => ?_
  · intro e he
    simp only [List.cons_append, List.nil_append, List.mem_cons, List.not_mem_nil, or_false] at he
    rcases he with z | z | z | z
    · subst z
      exact okB_two (m := 4) True.intro
    · subst z
      exact okB_two (okB_paper hp)
    · subst z
      exact okB_two (m := 4) (by show (0 : Int).natAbs < 2 ^ 100; decide)
    · subst z
      exact okB_read (by omega)
  have x27 := x6.trans x7
  have j7 := x7.2.1
  refine ⟨.ref j, rfl, ⟨by show (1 : Nat) ≤ sizeLine; decide, fun t1 ht1 => ⟨by show (1 : Nat) ≤ sizeLine; decide, fun l1 hl1 => ⟨by show (0 : Nat) ≤ sizeLine; decide, fun t2 ht2 => ⟨by show (6 : Nat) ≤ sizeLine; decide, fun po hpo => ?_⟩⟩⟩⟩⟩
  have y1 := Wx.new (W := GW TT j) (o := .tup [.str (Str.ofString "vine")]) j7 ht1
  have y2 := Wx.new (W := GW TT j) (o := .lst [.str (Str.ofString "vine")]) y1.2.1 hl1
  have y3 := Wx.new (W := GW TT j) (o := .tup []) y2.2.1 ht2
  have y4 := Wx.new (W := GW TT j) (o := .lst [.non, .int 5, .ref t1, .ref l1, .bl true, .ref t2]) y3.2.1 hpo
  refine ⟨j, po, oddXs t1 l1 t2, rfl, y4.2.1, upd_same, Wx.nM y3.2.1 hpo, (fun z => by cases z), by show (6 : Nat) < _; decide, fun vo hvo H8 x8 => ?_⟩
  have q1 := (y2.trans (y3.trans (y4.trans x8))).rp (rp_tup.mpr ⟨t1, _, rfl, SqT.of upd_same, rps_cons.mpr ⟨_, _, rfl, rp_str.mpr rfl, rps_nil.mpr rfl⟩⟩ : Rp K _ (.tuple [.str "vine"]) (.ref t1))
  have q2 := (y3.trans (y4.trans x8)).2.2 l1 _ upd_same (Wx.nM y1.2.1 hl1)
  have q3 := (y4.trans x8).rp (rp_tup.mpr ⟨t2, _, rfl, SqT.of upd_same, rps_nil.mpr rfl⟩ : Rp K _ (.tuple []) (.ref t2))
  have nl1 : ¬ (GW TT j).M l1 := Wx.nM y1.2.1 hl1
  have x28 := x27.trans (y1.trans (y2.trans (y3.trans (y4.trans x8))))
  refine (ev_addS (K := K) (W := GW TT j) (a := S [118, 105, 110, 101]) ev_str (ev_mulS (a := S [32, 48]) (n := ((199998 : Nat) : Int)) ev_str ev_int (mulOk_of 2 199998 (by decide) (by decide) (by decide) (by decide) (by decide))) (by rw [flatS_len 199998 (by decide)]; decide)) H8 (Wx.refl x8.2.1) _ fun v7 H9 x9 r7 => ⟨by show (2 : Nat) ≤ sizeLine; decide, fun pt hpt => ?_⟩
  rw [flat_S 199998 (by decide)] at r7
  have x10 := Wx.new (W := GW TT j) (o := .tup [vo, v7]) x9.2.1 hpt
  refine ⟨pt, [vo, v7], rfl, SqT.of upd_same, rfl, vo, [v7], rfl, v7, [], rfl, rfl, ?_⟩
  replace r7 := x10.rp r7
  have x2a := x28.trans (x9.trans x10)
  have x8a := x9.trans x10
  replace q1 := x8a.rp q1
  replace q2 := x8a.2.2 _ _ q2 nl1
  replace q3 := x8a.rp q3
  generalize upd H9 pt (.tup [vo, v7]) = Ha at r7 x2a q1 q2 q3
  have no : ∀ {H'}, Wx (GW TT j) Ha H' → NotS K H' vo := fun x => odd_not (x.rp q1) (x.2.2 _ _ q2 nl1) (x.rp q3) hvo
  refine lst_then (K := K) x2a.2.1 (ea_cons (ev_heard (hasT_gw hmT) (tells_bad rfl fun H' x => no x) (fun _ _ z => by cases z; decide)) ea_nil) (by simp) fun p2 Hb xsb xb hnb hpb hrb => ?_
  refine app_then (K := K) rfl xb hnb hpb hrb (ev_heard (hasT_gw hmT) (tells_read (ea_cons (ev_var rfl (xb.rp r7)) ea_nil) (by rw [longL_len]; decide)) fun x w => readP_ex) (by simp) fun Hc xsc xc hpc hrc => ?_
  rw [read_long (by decide) (by decide)] at hrc
  refine app_then (K := K) rfl xc hnb hpc hrc (ev_heard (hasT_gw hmT) (tells_read (l := longL 199998 ++ [48]) (ea_cons (ev_is (ev_addS (b := S [48]) (ev_var rfl (xc.rp r7)) ev_str (by rw [S_len, longL_len]; decide)) (by rw [S_add])) ea_nil) (by rw [List.length_append, longL_len]; decide)) fun x w => readP_ex) (by simp) fun Hd xsd xd hpd hrd => ?_
  rw [read_far (by rw [List.length_append, longL_len]; rfl)] at hrd
  refine retJ kk (x1.trans (x2.trans (x2a.trans xd))) (evx_of (ev_likeL (m := 5) rfl (Wx.nM x2a.2.1 hnb) hpd hrd (ea_cons (ev_tup (ea_cons ev_str (ea_cons (ev_neg ev_int) ea_nil)) (by simp)) (ea_cons (ev_tup (ea_cons ev_str (ea_cons (ev_tup (ea_cons ev_int (ea_cons ev_int ea_nil)) (by simp)) ea_nil)) (by simp)) (ea_cons (ev_tup (ea_cons ev_str (ea_cons ev_int ea_nil)) (by simp)) ea_nil))) (by simp) ?_) rfl)
  intro e he
  simp only [List.cons_append, List.nil_append, List.mem_cons, List.not_mem_nil, or_false] at he
  rcases he with z | z | z
  · subst z
    exact okB_two (m := 4) (by show (-1 : Int).natAbs < 2 ^ 100; decide)
  · subst z
    exact okB_two (m := 4) (okB_wl (by decide) (by decide))
  · subst z
    exact okB_two (m := 4) (by show (400001 : Int).natAbs < 2 ^ 100; decide)
end
end Fd
-- K6
namespace Fd
open PySem PySem.Spec PyProof.Rows L2 LamX NdefX
/-- law(script) -/
def spLaw (K : PySem.W.Frag) (TT : List NTab) : Sp := fun vs H Q _ => ∃ (a : Addr) (ns : List Int), vs = [.ref a] ∧ SqL K H a (ns.map V.int) ∧ TabsN TT H ∧ ∀ H', Q (.bl true) H'
section
variable {P : Program} {w : World} {K : PySem.W.Frag} {mg : Str → Option Value} {base : Heap} {TT : List NTab} {Pt : Addr}
theorem ev_ofX {W : Wd} {te : TE} {σ : L2.St} {H : Hp} {d : PyData} (h : EvX W K te σ H (· = d)) : Ev W K te σ H d := EvP.imp (q := VP.d W K d) h fun H v _ ⟨e, he, r⟩ => by
  rw [← he]
  exact r
theorem gw_start {H H' : Hp} {j : Addr} {x y : Int} (t : TabsN TT H) (s : Same H H') (e : H' j = some (jarV x y)) (ok : okJar x y) : (GW TT j).J H' := ⟨⟨x, y, e, ok⟩, fun p hp => by
  obtain ⟨ps, h1, h2, h3⟩ := t p hp
  refine ⟨ps, s _ _ h1, h2, fun pos cv hc => ?_⟩
  obtain ⟨c, e1, e2⟩ := h3 pos cv hc
  exact ⟨c, e1, s _ _ e2⟩⟩
theorem okc_of {x : Str} {st : Stmt} {N ps : List Str} {k : Nat} {sp : Sp} {f c : Addr} {oc : Value} {od an : Option Addr} {kV doc pm ct : Value} {osl : Array (Option Value)}
    (lk : K.lookup f = some ⟨oc, od, .func (PySem.W.fnOf x x (defArgs st) (defBody st) (defScope st) .none kV doc pm an (.ref c) ct), osl⟩) (hcd : PySem.W.codeIn K (.ref c) x = true) (S : FnScope N ps (defScope st)) (len : ∀ vs H Q E, sp vs H Q E → vs.length = ps.length)
    (hbody : ∀ (A : Around) (outer : List Env) (s : Shared) (H : Hp) (vs : List V) (Q : VK) (E : XK), Room k (A.deeper (envOfC x (defScope st) s.heap.objs.size f (.ref c))) → sp vs H Q E →
      ∃ t, PSs (cxOf CX0 P w K mg base N x (defScope st) f (.ref c) A outer s H E).nox (defBody st) t ∧ t { nx := fun _ H' => Q .non H', rt := Q } (start N vs) H) : FnOk P w K mg base CX0 (k + 1) f (PySem.W.fnOf x x (defArgs st) (defBody st) (defScope st) .none kV doc pm an (.ref c) ct) ps sp := fn_of lk hcd S len fun A outer s H vs Q E hr hsp => by
  obtain ⟨t, h, q⟩ := hbody A outer s H vs Q E hr hsp
  exact ⟨t, h.nox, q⟩
theorem ok_law {f c : Addr} {oc : Value} {od an : Option Addr} {kV doc pm ct : Value} {osl : Array (Option Value)} (Z : Tz K mg) (M : XMs K mg)
    (C_paper_right : Cd P w K mg base CX0 13 "_law_paper_right" (SpJ K TT fun ds Pd => ∃ d, ds = [d] ∧ isDrawn d ∧ Pd = (· = .bool true)))
    (C_bounds_right : Cd P w K mg base CX0 13 "_law_bounds_right" (SpJ K TT fun ds Pd => ds = [] ∧ Pd = (· = .bool true)))
    (lk : K.lookup f = some ⟨oc, od, .func (PySem.W.fnOf "law" "law" (defArgs s_law) (defBody s_law) (defScope s_law) .none kV doc pm an (.ref c) ct), osl⟩) (hcd : PySem.W.codeIn K (.ref c) "law" = true) (TB : TabB base mg c Pt) (hmT : (Pt, fun _ _ => Str.ofString "law.<locals>.<lambda>") ∈ TT) (hu : ∀ p ∈ TT, p.1 = Pt → p.2 = fun _ _ => Str.ofString "law.<locals>.<lambda>") :
    FnOk P w K mg base CX0 14 f (PySem.W.fnOf "law" "law" (defArgs s_law) (defBody s_law) (defScope s_law) .none kV doc pm an (.ref c) ct) ["script"] (spLaw K TT) := by
  have T : Tx K mg := Z.toTx
  refine okc_of (k := 13) lk hcd sc_law (fun vs H Q E h => by obtain ⟨_, _, e, _⟩ := h; rw [e]; rfl) ?_
  intro A outer s H vs Q E hr ⟨a, ns, e, ha, ht, kk⟩
  subst e
  refine ⟨_, (pss_cons (ps_set (i := 1) sc_law.nd rfl (Or.inl rfl) (pe_d (cd__law_pool T) hr (by decide) (pa_cons (pv 0) (pa_cons pe_int pa_nil))))
    (pss_cons (ps_for PassesOwn.never rfl (pi_range1 (by rfl) T.n_range (pa_cons pe_int pa_nil)) (pg_name (i := 2) sc_law.nd rfl (Or.inl rfl))
      (pss_one (ps_if (pt_not (pt_val (pe_d C_paper_right hr (by decide) (pa_cons (pv 1) (pa_cons (pe_d (cd__law_paper_drawn (TT := TT) T) hr (by decide) (pa_cons (pv 1) pa_nil)) pa_nil)))))
        (pss_one (ps_ret pe_bl)) pss_nil)))
    (pss_cons (ps_set (i := 3) sc_law.nd rfl (Or.inl rfl) (pe_lst (pa_cons (pe_heard Z M (by rfl) TB rfl hmT rfl hu (k := 10) (hr.mono (by decide)) (lamS_at (sc := defScope s_law) (by decide +kernel)) rfl (fun _ _ _ _ _ => rfl) (fun _ _ _ _ _ _ _ hr => (pe_dX (cd_read_paper Z) hr (by decide) (takes_of rfl rfl rfl rfl) (pa_cons pe_str pa_nil)))) pa_nil)))
    (pss_cons (ps_expr (pe_bm PySem.F.plainAttrs_list PySem.F.slot_list_append PySem.F.type_list_append mt_append (pv 3) (pa_cons (pe_heard Z M (by rfl) TB rfl hmT rfl hu (k := 10) (hr.mono (by decide)) (lamS_at (sc := defScope s_law) (by decide +kernel)) rfl (fun _ _ _ _ _ => rfl) (fun _ _ _ _ _ _ _ hr => (pe_dX (cd_read_paper Z) hr (by decide) (takes_of rfl rfl rfl rfl) (pa_cons pe_str pa_nil)))) pa_nil)))
    (pss_cons (ps_if (pt_not (pt_val (pe_d (cd__law_like T 7) hr (by decide) (pa_cons (pv 3) (pa_cons (pe_lst (pa_cons (pe_tup (pa_cons pe_str (pa_cons (pe_tup (pa_cons pe_int (pa_cons pe_int pa_nil))) pa_nil))) (pa_cons (pe_tup (pa_cons pe_str (pa_cons (pe_tup (pa_cons pe_str (pa_cons (pe_tup pa_nil) pa_nil))) pa_nil))) pa_nil))) pa_nil)))))
      (pss_one (ps_ret pe_bl)) pss_nil)
    (pss_one (ps_ret (pe_d C_bounds_right hr (by decide) (pa_cons (pv 1) pa_nil))))))))), ?_⟩
  refine ⟨_, rfl, a, ns, rfl, ha, fun p H1 x y s1 hn hp ok => ?_⟩
  have g1 : (GW TT p).J H1 := gw_start ht s1 hp ok
  refine forRX_then (W := GW TT p) (K := K) (mm := 8) g1 (evx_of ev_int ⟨7, rfl, by decide, by decide⟩) (by decide)
    (fun k σ' H' => ∃ (o2 o3 : Option V), σ' = [some (.ref a), some (.ref p), o2, o3] ∧ Wx (GW TT p) H1 H')
    (fun H2 x2 => ⟨_, _, rfl, x2⟩) (fun k σ1 H2 hk hI => ?_) fun n σ1 H2 _ hI => ?_
  · obtain ⟨o2, o3, es, x2⟩ := hI
    subst es
    refine skip_last (K := K) x2.2.1 (ev_ofX (ev_callJ1 (Pa := isDrawn) rfl (ev_callJ rfl ea_nil ⟨rfl, rfl⟩) fun d hd => ⟨_, ⟨d, rfl, hd, rfl⟩, fun z hz => hz⟩)) fun H3 x3 => ?_
    exact ⟨_, _, rfl, x2.trans x3⟩
  · obtain ⟨o2, o3, es, x2⟩ := hI
    subst es
    refine lst_then (K := K) x2.2.1 (ea_cons (ev_heard (hasT_gw hmT) (tells_read (l := []) (ea_cons ev_str ea_nil) (by decide)) fun x w => readP_ex) ea_nil) (by simp) fun q H3 xs x3 hn3 hp3 hr3 => ?_
    rw [read_empty] at hr3
    refine app_then (K := K) rfl x3 hn3 hp3 hr3 (ev_heard (hasT_gw hmT) (tells_read (l := [109, 97, 116, 99, 104]) (ea_cons ev_str ea_nil) (by decide)) fun x w => readP_ex) (by simp) fun H4 xs4 x4 hp4 hr4 => ?_
    rw [read_match] at hr4
    refine skip_then (K := K) x4.2.1 (ev_likeL (m := 5) rfl (Wx.nM x2.2.1 hn3) hp4 hr4 (ea_cons (ev_tup (ea_cons ev_str (ea_cons (ev_tup (ea_cons ev_int (ea_cons ev_int ea_nil)) (by simp)) ea_nil)) (by simp)) (ea_cons (ev_tup (ea_cons ev_str (ea_cons (ev_tup (ea_cons ev_str (ea_cons (ev_tup ea_nil (by simp)) ea_nil)) (by simp)) ea_nil)) (by simp)) ea_nil)) (by simp) ?_) fun H5 x5 => ?_
    · intro e he
      simp only [List.cons_append, List.nil_append, List.mem_cons, List.not_mem_nil, or_false] at he
      rcases he with z | z
      · subst z
        exact okB_two (m := 4) (okB_wl (by decide) (by decide))
      · subst z
        exact okB_two (m := 4) (okB_two (m := 3) ⟨by simp, fun d hd => (by cases hd)⟩)
    · refine (ev_ofX (ev_callJ (K := K) (σ := [some (.ref a), some (.ref p), o2, some (.ref q)]) (i := 1) (t := tNil) (E := E0) rfl ea_nil ⟨rfl, rfl⟩)).run (W := GW TT p) x5.2.1 fun v H6 x6 r6 => ?_
      obtain rfl := rp_bl.mp r6
      exact kk H6
end
end Fd
-- E2
/-! From the head's facts to what the walks stand on. -/
namespace Fd
open PySem PySem.Spec PyProof.Rows L2 LamX NdefX
open He (ba)
theorem excB_ok {K : PySem.W.Frag} {C : Addr} (h : excB K C = true) : ∃ nm q N bs bm sn sub ab col dd k0 k1 k2 k3 k5, K.lookup C = some (excClassObj nm q C N bs bm true sn sub ab col dd k0 k1 k2 k3 k5 "ValueError.__new__") ∧ PySem.HandSPX.refsVE bm = true := by
  unfold excB at h
  split at h
  · rename_i t dd cd sl ho
    split at h
    · rename_i C' bm k0 k1 k2 k3 n k5 hm hs
      simp only [Bool.and_eq_true, decide_eq_true_eq, Bool.not_eq_true'] at h
      obtain ⟨rfl, rfl, rfl, hdel, hdc, ht⟩ := h
      obtain ⟨nm, bs, mro, ns, qn, hd, sn, sub, ab, col, del⟩ := cd
      dsimp only at hm hdel hdc
      subst hm hdel hdc
      have hsl : sl = #[k0, k1, k2, k3, some (.builtin "ValueError.__new__"), k5] := by
        obtain ⟨l⟩ := sl
        simp only at hs
        rw [hs]
      subst hsl
      exact ⟨nm, qn, ns, bs, bm, sn, sub, ab, col, dd, k0, k1, k2, k3, k5, ho, ht⟩
    · cases h
  · cases h
section
variable {K : PySem.W.Frag} {h : Heap} {mg : Str → Option Value}
theorem exn_ok {x : Str} {fd : FuncData} (e : exnB K x = true) (hm : mg x = some (.ref (He.ga K x))) (F : Fun K "__init__" "Refused.__init__" s_Refused___init__ (He.ma K (He.ga K x) "__init__") fd) : Exn K mg x := by
  obtain ⟨e1, e⟩ := ba e
  obtain ⟨e2, e⟩ := ba e
  obtain ⟨e3, e⟩ := ba e
  obtain ⟨e4, e⟩ := ba e
  obtain ⟨e5, e⟩ := ba e
  obtain ⟨e6, e⟩ := ba e
  obtain ⟨e7, e⟩ := ba e
  obtain ⟨e8, e9⟩ := ba e
  exact ⟨⟨_, _, fd, hm, ⟨excB_ok e1, He.eqO_ok e2, of_decide_eq_true e3, of_decide_eq_true e4, e5⟩, He.eqO_ok e6, He.eqO_ok e7, of_decide_eq_true e8, F, xfB_ok e9⟩⟩
theorem at_of {x : Str} {st : Stmt} (hm : mg x = some (.ref (He.ga K x))) (F : ∃ fd, FunD K x x (defArgs st) (defBody st) (defScope st) [] [] (He.ga K x) fd) : At K mg x st := by
  obtain ⟨fd, F⟩ := F
  exact ⟨_, fd, hm, He5.fun_of F⟩
theorem mat_of {m q : Str} {st : Stmt} (hm : mg "Line" = some (.ref (He.ga K "Line"))) (M : Meth K (He.ga K "Line") m (He.ma K (He.ga K "Line") m)) (F : ∃ fd, FunD K m q (defArgs st) (defBody st) (defScope st) [] [] (He.ma K (He.ga K "Line") m) fd) : MAt K mg m q st := by
  obtain ⟨fd, F⟩ := F
  exact ⟨_, _, fd, hm, M, He5.fun_of F⟩
theorem kc_int {x : Str} {i : Int} (h : ∃ t, mg x = some (.int i t)) : Kc mg x (.int i) := by
  obtain ⟨t, e⟩ := h
  exact ⟨_, e, t, rfl⟩
theorem kc_str {x z : Str} (h : ∃ t, mg x = some (.str z t)) : Kc mg x (.str z) := by
  obtain ⟨t, e⟩ := h
  exact ⟨_, e, t, rfl⟩
theorem chains_ok (hm : mg "CHAINS" = some (.ref (He.ga K "CHAINS"))) (e : chB K = true) : ∃ a, Kc mg "CHAINS" (.ref a) ∧ ∀ H, Rp K H (.tuple [.str (Str.ofString "filling"), .str (Str.ofString "sight")]) (.ref a) :=
  ⟨He.ga K "CHAINS", ⟨_, hm, rfl⟩, fun H => rp_tup.mpr ⟨_, _, rfl, He.tupB_ok e H, rps_cons.mpr ⟨_, _, rfl, rp_str.mpr rfl, .one (rp_str.mpr rfl)⟩⟩⟩
theorem ve_ok (e : veB K = true) : PySem.W.findCls K (.type "ValueError") (.type "type") "__init__" = some (.val (.builtin "ValueError.__init__")) := by
  unfold veB at e
  split at e
  · rename_i n hn
    rw [hn, of_decide_eq_true e]
  · cases e
theorem ex_parts (e : exB K = true) : (exnB K "BadText" = true ∧ exnB K "WrongLine" = true ∧ exnB K "BadPaper" = true ∧ exnB K "TooMany" = true) ∧ chB K = true ∧ veB K = true ∧ ndB K = true := by
  unfold exB at e
  simp only [Bool.and_eq_true] at e
  obtain ⟨⟨⟨⟨e1, e2⟩, e3⟩, e4⟩, e5, e6, e7⟩ := e
  exact ⟨⟨e1, e2, e3, e4⟩, e5, e6, e7⟩
theorem tx_of (X : K.In h) (G : h.Ns mainGlobals mg) (c : He.SaysD faL fnL K) (hch : chB K = true) : Tx K mg where
  d_whole := at_of (He.glo_ok X G (c.fact 0 (f := .glo "whole") rfl)) (c.def_ 0 (d := dD "whole" s_whole) rfl)
  d_piece_wrong := at_of (He.glo_ok X G (c.fact 1 (f := .glo "piece_wrong") rfl)) (c.def_ 1 (d := dD "piece_wrong" s_piece_wrong) rfl)
  d_is_piece := at_of (He.glo_ok X G (c.fact 2 (f := .glo "is_piece") rfl)) (c.def_ 2 (d := dD "is_piece" s_is_piece) rfl)
  d_is_row := at_of (He.glo_ok X G (c.fact 3 (f := .glo "is_row") rfl)) (c.def_ 3 (d := dD "is_row" s_is_row) rfl)
  d_row_wrong := at_of (He.glo_ok X G (c.fact 4 (f := .glo "row_wrong") rfl)) (c.def_ 4 (d := dD "row_wrong" s_row_wrong) rfl)
  d_is_chain := at_of (He.glo_ok X G (c.fact 5 (f := .glo "is_chain") rfl)) (c.def_ 5 (d := dD "is_chain" s_is_chain) rfl)
  d_lines_of := at_of (He.glo_ok X G (c.fact 6 (f := .glo "lines_of") rfl)) (c.def_ 6 (d := dD "lines_of" s_lines_of) rfl)
  d_words_of := at_of (He.glo_ok X G (c.fact 7 (f := .glo "words_of") rfl)) (c.def_ 7 (d := dD "words_of" s_words_of) rfl)
  d_number_of := at_of (He.glo_ok X G (c.fact 8 (f := .glo "number_of") rfl)) (c.def_ 8 (d := dD "number_of" s_number_of) rfl)
  d_list_of := at_of (He.glo_ok X G (c.fact 9 (f := .glo "list_of") rfl)) (c.def_ 9 (d := dD "list_of" s_list_of) rfl)
  d_piece_of := at_of (He.glo_ok X G (c.fact 10 (f := .glo "piece_of") rfl)) (c.def_ 10 (d := dD "piece_of" s_piece_of) rfl)
  d_fail := at_of (He.glo_ok X G (c.fact 11 (f := .glo "fail") rfl)) (c.def_ 11 (d := dD "fail" s_fail) rfl)
  d_list_word := at_of (He.glo_ok X G (c.fact 12 (f := .glo "list_word") rfl)) (c.def_ 12 (d := dD "list_word" s_list_word) rfl)
  d_text_of := at_of (He.glo_ok X G (c.fact 13 (f := .glo "text_of") rfl)) (c.def_ 13 (d := dD "text_of" s_text_of) rfl)
  d_line_at := at_of (He.glo_ok X G (c.fact 14 (f := .glo "line_at") rfl)) (c.def_ 14 (d := dD "line_at" s_line_at) rfl)
  d_want_end := at_of (He.glo_ok X G (c.fact 15 (f := .glo "want_end") rfl)) (c.def_ 15 (d := dD "want_end" s_want_end) rfl)
  d_read_only := at_of (He.glo_ok X G (c.fact 16 (f := .glo "read_only") rfl)) (c.def_ 16 (d := dD "read_only" s_read_only) rfl)
  d_row_word := at_of (He.glo_ok X G (c.fact 17 (f := .glo "row_word") rfl)) (c.def_ 17 (d := dD "row_word" s_row_word) rfl)
  d_row_of := at_of (He.glo_ok X G (c.fact 18 (f := .glo "row_of") rfl)) (c.def_ 18 (d := dD "row_of" s_row_of) rfl)
  d_rows_in := at_of (He.glo_ok X G (c.fact 19 (f := .glo "rows_in") rfl)) (c.def_ 19 (d := dD "rows_in" s_rows_in) rfl)
  d_is_number := at_of (He.glo_ok X G (c.fact 20 (f := .glo "is_number") rfl)) (c.def_ 20 (d := dD "is_number" s_is_number) rfl)
  d_are_rising := at_of (He.glo_ok X G (c.fact 21 (f := .glo "are_rising") rfl)) (c.def_ 21 (d := dD "are_rising" s_are_rising) rfl)
  d_is_crowd := at_of (He.glo_ok X G (c.fact 22 (f := .glo "is_crowd") rfl)) (c.def_ 22 (d := dD "is_crowd" s_is_crowd) rfl)
  d_is_pair := at_of (He.glo_ok X G (c.fact 23 (f := .glo "is_pair") rfl)) (c.def_ 23 (d := dD "is_pair" s_is_pair) rfl)
  d_are_pairs := at_of (He.glo_ok X G (c.fact 24 (f := .glo "are_pairs") rfl)) (c.def_ 24 (d := dD "are_pairs" s_are_pairs) rfl)
  d_is_set := at_of (He.glo_ok X G (c.fact 25 (f := .glo "is_set") rfl)) (c.def_ 25 (d := dD "is_set" s_is_set) rfl)
  d_is_paper := at_of (He.glo_ok X G (c.fact 26 (f := .glo "is_paper") rfl)) (c.def_ 26 (d := dD "is_paper" s_is_paper) rfl)
  d_part_word := at_of (He.glo_ok X G (c.fact 27 (f := .glo "part_word") rfl)) (c.def_ 27 (d := dD "part_word" s_part_word) rfl)
  d_paper_text := at_of (He.glo_ok X G (c.fact 28 (f := .glo "paper_text") rfl)) (c.def_ 28 (d := dD "paper_text" s_paper_text) rfl)
  d_pair_of := at_of (He.glo_ok X G (c.fact 29 (f := .glo "pair_of") rfl)) (c.def_ 29 (d := dD "pair_of" s_pair_of) rfl)
  d_crowd_in_line := at_of (He.glo_ok X G (c.fact 30 (f := .glo "crowd_in_line") rfl)) (c.def_ 30 (d := dD "crowd_in_line" s_crowd_in_line) rfl)
  d_match_in := at_of (He.glo_ok X G (c.fact 31 (f := .glo "match_in") rfl)) (c.def_ 31 (d := dD "match_in" s_match_in) rfl)
  d_sets_in := at_of (He.glo_ok X G (c.fact 32 (f := .glo "sets_in") rfl)) (c.def_ 32 (d := dD "sets_in" s_sets_in) rfl)
  d_indices_in := at_of (He.glo_ok X G (c.fact 33 (f := .glo "indices_in") rfl)) (c.def_ 33 (d := dD "indices_in" s_indices_in) rfl)
  d_paper_in := at_of (He.glo_ok X G (c.fact 34 (f := .glo "paper_in") rfl)) (c.def_ 34 (d := dD "paper_in" s_paper_in) rfl)
  d_read_paper := at_of (He.glo_ok X G (c.fact 35 (f := .glo "read_paper") rfl)) (c.def_ 35 (d := dD "read_paper" s_read_paper) rfl)
  d__law_is_whole := at_of (He.glo_ok X G (c.fact 36 (f := .glo "_law_is_whole") rfl)) (c.def_ 36 (d := dD "_law_is_whole" s__law_is_whole) rfl)
  d__law_like := at_of (He.glo_ok X G (c.fact 37 (f := .glo "_law_like") rfl)) (c.def_ 37 (d := dD "_law_like" s__law_like) rfl)
  d__law_pool := at_of (He.glo_ok X G (c.fact 38 (f := .glo "_law_pool") rfl)) (c.def_ 38 (d := dD "_law_pool" s__law_pool) rfl)
  d__law_take := at_of (He.glo_ok X G (c.fact 39 (f := .glo "_law_take") rfl)) (c.def_ 39 (d := dD "_law_take" s__law_take) rfl)
  d__law_one := at_of (He.glo_ok X G (c.fact 40 (f := .glo "_law_one") rfl)) (c.def_ 40 (d := dD "_law_one" s__law_one) rfl)
  d__law_mixed := at_of (He.glo_ok X G (c.fact 41 (f := .glo "_law_mixed") rfl)) (c.def_ 41 (d := dD "_law_mixed" s__law_mixed) rfl)
  d__law_bent := at_of (He.glo_ok X G (c.fact 42 (f := .glo "_law_bent") rfl)) (c.def_ 42 (d := dD "_law_bent" s__law_bent) rfl)
  d__law_tx_number := at_of (He.glo_ok X G (c.fact 43 (f := .glo "_law_tx_number") rfl)) (c.def_ 43 (d := dD "_law_tx_number" s__law_tx_number) rfl)
  d__law_tx_list := at_of (He.glo_ok X G (c.fact 44 (f := .glo "_law_tx_list") rfl)) (c.def_ 44 (d := dD "_law_tx_list" s__law_tx_list) rfl)
  d__law_tx_piece := at_of (He.glo_ok X G (c.fact 45 (f := .glo "_law_tx_piece") rfl)) (c.def_ 45 (d := dD "_law_tx_piece" s__law_tx_piece) rfl)
  d__law_tx_within := at_of (He.glo_ok X G (c.fact 46 (f := .glo "_law_tx_within") rfl)) (c.def_ 46 (d := dD "_law_tx_within" s__law_tx_within) rfl)
  d__law_tx_wrong := at_of (He.glo_ok X G (c.fact 47 (f := .glo "_law_tx_wrong") rfl)) (c.def_ 47 (d := dD "_law_tx_wrong" s__law_tx_wrong) rfl)
  d__law_tx_told := at_of (He.glo_ok X G (c.fact 48 (f := .glo "_law_tx_told") rfl)) (c.def_ 48 (d := dD "_law_tx_told" s__law_tx_told) rfl)
  d__law_tx_row := at_of (He.glo_ok X G (c.fact 49 (f := .glo "_law_tx_row") rfl)) (c.def_ 49 (d := dD "_law_tx_row" s__law_tx_row) rfl)
  d__law_tx_rows := at_of (He.glo_ok X G (c.fact 50 (f := .glo "_law_tx_rows") rfl)) (c.def_ 50 (d := dD "_law_tx_rows" s__law_tx_rows) rfl)
  d__law_tx_tie := at_of (He.glo_ok X G (c.fact 51 (f := .glo "_law_tx_tie") rfl)) (c.def_ 51 (d := dD "_law_tx_tie" s__law_tx_tie) rfl)
  d__law_tx_lot := at_of (He.glo_ok X G (c.fact 52 (f := .glo "_law_tx_lot") rfl)) (c.def_ 52 (d := dD "_law_tx_lot" s__law_tx_lot) rfl)
  d__law_tx_parts := at_of (He.glo_ok X G (c.fact 53 (f := .glo "_law_tx_parts") rfl)) (c.def_ 53 (d := dD "_law_tx_parts" s__law_tx_parts) rfl)
  d__law_tx_read_paper := at_of (He.glo_ok X G (c.fact 54 (f := .glo "_law_tx_read_paper") rfl)) (c.def_ 54 (d := dD "_law_tx_read_paper" s__law_tx_read_paper) rfl)
  d__law_tx_of := at_of (He.glo_ok X G (c.fact 55 (f := .glo "_law_tx_of") rfl)) (c.def_ 55 (d := dD "_law_tx_of" s__law_tx_of) rfl)
  d__law_tx_chain := at_of (He.glo_ok X G (c.fact 56 (f := .glo "_law_tx_chain") rfl)) (c.def_ 56 (d := dD "_law_tx_chain" s__law_tx_chain) rfl)
  d__law_tx_paper := at_of (He.glo_ok X G (c.fact 57 (f := .glo "_law_tx_paper") rfl)) (c.def_ 57 (d := dD "_law_tx_paper" s__law_tx_paper) rfl)
  d__law_tx_bent := at_of (He.glo_ok X G (c.fact 58 (f := .glo "_law_tx_bent") rfl)) (c.def_ 58 (d := dD "_law_tx_bent" s__law_tx_bent) rfl)
  d__law_papers_heard := at_of (He.glo_ok X G (c.fact 59 (f := .glo "_law_papers_heard") rfl)) (c.def_ 59 (d := dD "_law_papers_heard" s__law_papers_heard) rfl)
  d__law_is_lot_of := at_of (He.glo_ok X G (c.fact 60 (f := .glo "_law_is_lot_of") rfl)) (c.def_ 60 (d := dD "_law_is_lot_of" s__law_is_lot_of) rfl)
  d__law_are_rows := at_of (He.glo_ok X G (c.fact 61 (f := .glo "_law_are_rows") rfl)) (c.def_ 61 (d := dD "_law_are_rows" s__law_are_rows) rfl)
  d__law_are_ties := at_of (He.glo_ok X G (c.fact 62 (f := .glo "_law_are_ties") rfl)) (c.def_ 62 (d := dD "_law_are_ties" s__law_are_ties) rfl)
  d__law_is_great := at_of (He.glo_ok X G (c.fact 63 (f := .glo "_law_is_great") rfl)) (c.def_ 63 (d := dD "_law_is_great" s__law_is_great) rfl)
  d__law_is_paper_of := at_of (He.glo_ok X G (c.fact 64 (f := .glo "_law_is_paper_of") rfl)) (c.def_ 64 (d := dD "_law_is_paper_of" s__law_is_paper_of) rfl)
  d__law_great_drawn := at_of (He.glo_ok X G (c.fact 65 (f := .glo "_law_great_drawn") rfl)) (c.def_ 65 (d := dD "_law_great_drawn" s__law_great_drawn) rfl)
  d__law_rising_drawn := at_of (He.glo_ok X G (c.fact 66 (f := .glo "_law_rising_drawn") rfl)) (c.def_ 66 (d := dD "_law_rising_drawn" s__law_rising_drawn) rfl)
  d__law_paper_drawn := at_of (He.glo_ok X G (c.fact 67 (f := .glo "_law_paper_drawn") rfl)) (c.def_ 67 (d := dD "_law_paper_drawn" s__law_paper_drawn) rfl)
  d__law_text_bent := at_of (He.glo_ok X G (c.fact 68 (f := .glo "_law_text_bent") rfl)) (c.def_ 68 (d := dD "_law_text_bent" s__law_text_bent) rfl)
  d__law_paper_right := at_of (He.glo_ok X G (c.fact 69 (f := .glo "_law_paper_right") rfl)) (c.def_ 69 (d := dD "_law_paper_right" s__law_paper_right) rfl)
  d__law_most_of := at_of (He.glo_ok X G (c.fact 70 (f := .glo "_law_most_of") rfl)) (c.def_ 70 (d := dD "_law_most_of" s__law_most_of) rfl)
  d__law_bounds_right := at_of (He.glo_ok X G (c.fact 71 (f := .glo "_law_bounds_right") rfl)) (c.def_ 71 (d := dD "_law_bounds_right" s__law_bounds_right) rfl)
  d_law := at_of (He.glo_ok X G (c.fact 72 (f := .glo "law") rfl)) (c.def_ 72 (d := dD "law" s_law) rfl)
  n_all := He.free_ok X G (c.fact 80 (f := .free "all") rfl)
  n_bool := He.free_ok X G (c.fact 81 (f := .free "bool") rfl)
  n_dict := He.free_ok X G (c.fact 82 (f := .free "dict") rfl)
  n_enumerate := He.free_ok X G (c.fact 83 (f := .free "enumerate") rfl)
  n_int := He.free_ok X G (c.fact 84 (f := .free "int") rfl)
  n_isinstance := He.free_ok X G (c.fact 85 (f := .free "isinstance") rfl)
  n_len := He.free_ok X G (c.fact 86 (f := .free "len") rfl)
  n_list := He.free_ok X G (c.fact 87 (f := .free "list") rfl)
  n_max := He.free_ok X G (c.fact 88 (f := .free "max") rfl)
  n_range := He.free_ok X G (c.fact 89 (f := .free "range") rfl)
  n_sorted := He.free_ok X G (c.fact 90 (f := .free "sorted") rfl)
  n_str := He.free_ok X G (c.fact 91 (f := .free "str") rfl)
  n_tuple := He.free_ok X G (c.fact 92 (f := .free "tuple") rfl)
  n_zip := He.free_ok X G (c.fact 93 (f := .free "zip") rfl)
  k_MOST_CORNER := kc_int (He.int_ok X G (c.fact 95 (f := .int "MOST_CORNER" 19) rfl))
  k_MOST_WIDE := kc_int (He.int_ok X G (c.fact 96 (f := .int "MOST_WIDE" 7) rfl))
  k_MOST_ROWS := kc_int (He.int_ok X G (c.fact 97 (f := .int "MOST_ROWS" 3000) rfl))
  k_MOST_FIGURES := kc_int (He.int_ok X G (c.fact 98 (f := .int "MOST_FIGURES" 20) rfl))
  k_HIGHEST := kc_int (He.int_ok X G (c.fact 99 (f := .int "HIGHEST" 99999999999999999999) rfl))
  k_MOST_SIGNS := kc_int (He.int_ok X G (c.fact 100 (f := .int "MOST_SIGNS" 400000) rfl))
  k_GREATEST_FIELD := kc_int (He.int_ok X G (c.fact 101 (f := .int "GREATEST_FIELD" 97) rfl))
  k_MOST_PAIRS := kc_int (He.int_ok X G (c.fact 102 (f := .int "MOST_PAIRS" 80) rfl))
  k_MOST_SETS := kc_int (He.int_ok X G (c.fact 103 (f := .int "MOST_SETS" 159) rfl))
  k_MOST_INDICES := kc_int (He.int_ok X G (c.fact 104 (f := .int "MOST_INDICES" 400) rfl))
  k_MOST_IN_SET := kc_int (He.int_ok X G (c.fact 105 (f := .int "MOST_IN_SET" 7) rfl))
  k_LAST_IN_SET := kc_int (He.int_ok X G (c.fact 106 (f := .int "LAST_IN_SET" 19) rfl))
  k_FIGURES := kc_str (He.str_ok X G (c.fact 107 (f := .str "FIGURES" "0123456789") rfl))
  k_CHAINS := chains_ok (He.glo_ok X G (c.fact 79 (f := .glo "CHAINS") rfl)) hch
theorem tz_of (X : K.In h) (G : h.Ns mainGlobals mg) (c : He.SaysD faL fnL K) (ex : exB K = true) : Tz K mg := by
  obtain ⟨⟨e1, e2, e3, e4⟩, e5, e6, e7⟩ := ex_parts ex
  refine { tx_of X G c e5 with b := ⟨He.free_ok X G (c.fact 94 (f := .free "ValueError") rfl), ve_ok e6⟩, x_BadText := ?_, x_WrongLine := ?_, x_BadPaper := ?_, x_TooMany := ?_, line := ?_, m_want := ?_, m_is_over := ?_, m_want_over := ?_, m_take := ?_, m_take_one := ?_, m_take_number := ?_ }
  · obtain ⟨fd, F⟩ := c.def_ 73 (d := dM "BadText" "__init__" "Refused.__init__" s_Refused___init__) rfl
    exact exn_ok e1 (He.glo_ok X G (c.fact 73 (f := .glo "BadText") rfl)) (He5.fun_of F)
  · obtain ⟨fd, F⟩ := c.def_ 74 (d := dM "WrongLine" "__init__" "Refused.__init__" s_Refused___init__) rfl
    exact exn_ok e2 (He.glo_ok X G (c.fact 74 (f := .glo "WrongLine") rfl)) (He5.fun_of F)
  · obtain ⟨fd, F⟩ := c.def_ 75 (d := dM "BadPaper" "__init__" "Refused.__init__" s_Refused___init__) rfl
    exact exn_ok e3 (He.glo_ok X G (c.fact 75 (f := .glo "BadPaper") rfl)) (He5.fun_of F)
  · obtain ⟨fd, F⟩ := c.def_ 76 (d := dM "TooMany" "__init__" "Refused.__init__" s_Refused___init__) rfl
    exact exn_ok e4 (He.glo_ok X G (c.fact 76 (f := .glo "TooMany") rfl)) (He5.fun_of F)
  · obtain ⟨fd, F⟩ := c.def_ 77 (d := dM "Line" "__init__" "Line.__init__" s_Line___init__) rfl
    exact ⟨⟨_, _, fd, He.glo_ok X G (c.fact 78 (f := .glo "Line") rfl), He.cls_ok (c.fact 108 (f := .cls "Line") rfl), He.mkr_ok (c.fact 109 (f := .mkr "Line") rfl), He5.fun_of F, He.noat_ok (c.fact 110 (f := .noat "Line" "at") rfl), He.noat_ok (c.fact 111 (f := .noat "Line" "words") rfl), He.noat_ok (c.fact 112 (f := .noat "Line" "place") rfl)⟩⟩
  · exact mat_of (He.glo_ok X G (c.fact 78 (f := .glo "Line") rfl)) (He.meth_ok (c.fact 113 (f := .meth "Line" "want") rfl)) (c.def_ 78 (d := dM "Line" "want" "Line.want" s_Line_want) rfl)
  · exact mat_of (He.glo_ok X G (c.fact 78 (f := .glo "Line") rfl)) (He.meth_ok (c.fact 114 (f := .meth "Line" "is_over") rfl)) (c.def_ 79 (d := dM "Line" "is_over" "Line.is_over" s_Line_is_over) rfl)
  · exact mat_of (He.glo_ok X G (c.fact 78 (f := .glo "Line") rfl)) (He.meth_ok (c.fact 115 (f := .meth "Line" "want_over") rfl)) (c.def_ 80 (d := dM "Line" "want_over" "Line.want_over" s_Line_want_over) rfl)
  · exact mat_of (He.glo_ok X G (c.fact 78 (f := .glo "Line") rfl)) (He.meth_ok (c.fact 116 (f := .meth "Line" "take") rfl)) (c.def_ 81 (d := dM "Line" "take" "Line.take" s_Line_take) rfl)
  · exact mat_of (He.glo_ok X G (c.fact 78 (f := .glo "Line") rfl)) (He.meth_ok (c.fact 117 (f := .meth "Line" "take_one") rfl)) (c.def_ 82 (d := dM "Line" "take_one" "Line.take_one" s_Line_take_one) rfl)
  · exact mat_of (He.glo_ok X G (c.fact 78 (f := .glo "Line") rfl)) (He.meth_ok (c.fact 118 (f := .meth "Line" "take_number") rfl)) (c.def_ 83 (d := dM "Line" "take_number" "Line.take_number" s_Line_take_number) rfl)
theorem xms_of (X : K.In h) (G : h.Ns mainGlobals mg) (c : He.SaysD faL fnL K) : XMs K mg where
  rf := ⟨_, He.glo_ok X G (c.fact 77 (f := .glo "Refused") rfl)⟩
  pp := ⟨_, _, He.glo_ok X G (c.fact 75 (f := .glo "BadPaper") rfl), He.glo_ok X G (c.fact 75 (f := .glo "BadPaper") rfl), He.exm_ok (c.fact 119 (f := .exm "BadPaper" "BadPaper" true) rfl)⟩
  wp := ⟨_, _, He.glo_ok X G (c.fact 74 (f := .glo "WrongLine") rfl), He.glo_ok X G (c.fact 75 (f := .glo "BadPaper") rfl), He.exm_ok (c.fact 120 (f := .exm "WrongLine" "BadPaper" false) rfl)⟩
  ww := ⟨_, _, He.glo_ok X G (c.fact 74 (f := .glo "WrongLine") rfl), He.glo_ok X G (c.fact 74 (f := .glo "WrongLine") rfl), He.exm_ok (c.fact 121 (f := .exm "WrongLine" "WrongLine" true) rfl)⟩
  tp := ⟨_, _, He.glo_ok X G (c.fact 73 (f := .glo "BadText") rfl), He.glo_ok X G (c.fact 75 (f := .glo "BadPaper") rfl), He.exm_ok (c.fact 122 (f := .exm "BadText" "BadPaper" false) rfl)⟩
  tw := ⟨_, _, He.glo_ok X G (c.fact 73 (f := .glo "BadText") rfl), He.glo_ok X G (c.fact 74 (f := .glo "WrongLine") rfl), He.exm_ok (c.fact 123 (f := .exm "BadText" "WrongLine" false) rfl)⟩
  tt := ⟨_, _, He.glo_ok X G (c.fact 73 (f := .glo "BadText") rfl), He.glo_ok X G (c.fact 73 (f := .glo "BadText") rfl), He.exm_ok (c.fact 124 (f := .exm "BadText" "BadText" true) rfl)⟩
  mp := ⟨_, _, He.glo_ok X G (c.fact 76 (f := .glo "TooMany") rfl), He.glo_ok X G (c.fact 75 (f := .glo "BadPaper") rfl), He.exm_ok (c.fact 125 (f := .exm "TooMany" "BadPaper" false) rfl)⟩
  mw := ⟨_, _, He.glo_ok X G (c.fact 76 (f := .glo "TooMany") rfl), He.glo_ok X G (c.fact 74 (f := .glo "WrongLine") rfl), He.exm_ok (c.fact 126 (f := .exm "TooMany" "WrongLine" false) rfl)⟩
  mt := ⟨_, _, He.glo_ok X G (c.fact 76 (f := .glo "TooMany") rfl), He.glo_ok X G (c.fact 73 (f := .glo "BadText") rfl), He.exm_ok (c.fact 127 (f := .exm "TooMany" "BadText" false) rfl)⟩
  mm := ⟨_, _, He.glo_ok X G (c.fact 76 (f := .glo "TooMany") rfl), He.glo_ok X G (c.fact 76 (f := .glo "TooMany") rfl), He.exm_ok (c.fact 128 (f := .exm "TooMany" "TooMany" true) rfl)⟩
end
end Fd
-- E3
/-! The law's promise over the head. -/
namespace Fd
open PySem PySem.Spec PyProof.Rows L2 LamX NdefX
section
variable {K : PySem.W.Frag} {h base : Heap} {mg : Str → Option Value} {P : Program} {w : World}
theorem tab_at {x : Str} {st : Stmt} (F : ∃ fd, FunD K x x (defArgs st) (defBody st) (defScope st) [] [] (He.ga K x) fd) : ∃ (c : Addr) (oc : Value) (od : Option Addr) (kV doc pm : Value) (an : Option Addr) (ct : Value) (osl : Array (Option Value)),
    K.lookup (He.ga K x) = some ⟨oc, od, .func (PySem.W.fnOf x x (defArgs st) (defBody st) (defScope st) .none kV doc pm an (.ref c) ct), osl⟩ ∧ PySem.W.codeIn K (.ref c) x = true ∧ PySem.W.keepIn K (.ref (He.ga K x)) = true ∧ (He.cT K (x, none)).1 = c := by
  obtain ⟨fd, F⟩ := F
  have F' := He5.fun_of F
  obtain ⟨oc, od, kV, doc, pm, an, cdv, ct, osl, e, lk, hcd⟩ := F'.ex
  obtain ⟨c, ec⟩ := He.codeIn_ref hcd
  subst ec
  subst e
  exact ⟨c, oc, od, kV, doc, pm, an, ct, osl, lk, hcd, F'.kp, He.codeOf_eq (p := (x, none)) lk rfl⟩
theorem atc_of {x : Str} {st : Stmt} (hm : mg x = some (.ref (He.ga K x))) (F : ∃ fd, FunD K x x (defArgs st) (defBody st) (defScope st) [] [] (He.ga K x) fd) (TB : TabB base mg (He.cT K (x, none)).1 (He.cT K (x, none)).2) : AtC K mg base x st (He.cT K (x, none)).2 := by
  obtain ⟨c, oc, od, kV, doc, pm, an, ct, osl, lk, hcd, kp, e⟩ := tab_at F
  rw [e] at TB
  exact ⟨_, c, oc, od, kV, doc, pm, an, ct, osl, hm, lk, hcd, kp, TB⟩
theorem tabN_nil {H : Hp} {Q : Addr} {nm : Nat → Nat → Str} (h : H Q = some (.tbl #[])) : TabN H Q nm := ⟨#[], h, True.intro, fun pos cv hc => by
  have z : codeAmong pos [] = some cv := hc
  simp [codeAmong] at z⟩
end
abbrev tabX (K : PySem.W.Frag) (x : Str) : Addr := (He.cT K (x, none)).2
/-- the law's tables -/
def TTk (K : PySem.W.Frag) : List NTab := [(tabX K "_law_tx_read_paper", fun _ _ => Str.ofString "_law_tx_read_paper.<locals>.<lambda>"), (tabX K "_law_paper_right", fun _ _ => Str.ofString "_law_paper_right.<locals>.<lambda>"),
  (tabX K "_law_bounds_right", fun _ _ => Str.ofString "_law_bounds_right.<locals>.<lambda>"), (tabX K "law", fun _ _ => Str.ofString "law.<locals>.<lambda>")]
theorem tt_hu {a b c d : Addr} {n1 n2 n3 n4 : Nat → Nat → Str} (h : [a, b, c, d].Nodup) : (∀ p ∈ ([(a, n1), (b, n2), (c, n3), (d, n4)] : List NTab), p.1 = a → p.2 = n1) ∧ (∀ p ∈ ([(a, n1), (b, n2), (c, n3), (d, n4)] : List NTab), p.1 = b → p.2 = n2) ∧
    (∀ p ∈ ([(a, n1), (b, n2), (c, n3), (d, n4)] : List NTab), p.1 = c → p.2 = n3) ∧ (∀ p ∈ ([(a, n1), (b, n2), (c, n3), (d, n4)] : List NTab), p.1 = d → p.2 = n4) := by
  simp only [List.nodup_cons, List.mem_cons, List.not_mem_nil, or_false, not_or, List.nodup_nil, and_true, not_false_eq_true] at h
  obtain ⟨⟨ab, ac, ad⟩, ⟨bc, bd⟩, cd⟩ := h
  refine ⟨?_, ?_, ?_, ?_⟩ <;> (intro p hp e; simp only [List.mem_cons, List.not_mem_nil, or_false] at hp; rcases hp with z | z | z | z <;> subst z) <;> first | rfl | (exfalso; revert e; first | exact ab | exact ac | exact ad | exact bc | exact bd | exact cd | exact Ne.symm ab | exact Ne.symm ac | exact Ne.symm ad | exact Ne.symm bc | exact Ne.symm bd | exact Ne.symm cd)
section
variable {K : PySem.W.Frag} {h : Heap} {mg : Str → Option Value} {w : World}
theorem law_at {l : PySem.W.OpenLaw} {fa : Addr} (X : K.In h) (G : h.Ns mainGlobals mg) (hmg : mg "law" = some (.ref fa)) (c : He.SaysX faL fnL [] tfL exB w h K) : LawAtS l w K CX0 14 63 "script" mg fa h := by
  have cd := c.t.d
  obtain ⟨_, _, _, hnd⟩ := ex_parts c.more
  have Z := tz_of X G cd c.more
  have M := xms_of X G cd
  have glaw := He.glo_ok X G (cd.fact 72 (f := .glo "law") rfl)
  rw [hmg] at glaw
  obtain rfl : fa = He.ga K "law" := by
    injection glaw with z
    injection z
  obtain ⟨cl, oc, od, kV, doc, pm, an, ct, osl, lk, hcd, kp, ecl⟩ := tab_at (K := K) (x := "law") (st := s_law) (cd.def_ 72 (d := dD "law" s_law) rfl)
  have hnd' : [tabX K "_law_tx_read_paper", tabX K "_law_paper_right", tabX K "_law_bounds_right", tabX K "law"].Nodup := of_decide_eq_true hnd
  obtain ⟨u1, u2, u3, u4⟩ := tt_hu (n1 := fun _ _ => Str.ofString "_law_tx_read_paper.<locals>.<lambda>") (n2 := fun _ _ => Str.ofString "_law_paper_right.<locals>.<lambda>") (n3 := fun _ _ => Str.ofString "_law_bounds_right.<locals>.<lambda>") (n4 := fun _ _ => Str.ofString "law.<locals>.<lambda>") hnd'
  have memc : ∀ x : Str, (x, none) ∈ tfL → He.cT K (x, none) ∈ tfL.map (He.cT K) := fun x hx => List.mem_map.mpr ⟨_, hx, rfl⟩
  have t1 : ((("_law_tx_read_paper" : Str), (none : Option Str)) : He.Defn) ∈ tfL := by unfold tfL; exact List.mem_cons_self
  have t2 : ((("_law_paper_right" : Str), (none : Option Str)) : He.Defn) ∈ tfL := by unfold tfL; exact List.mem_cons_of_mem _ List.mem_cons_self
  have t3 : ((("_law_bounds_right" : Str), (none : Option Str)) : He.Defn) ∈ tfL := by unfold tfL; exact List.mem_cons_of_mem _ (List.mem_cons_of_mem _ List.mem_cons_self)
  have t4 : ((("law" : Str), (none : Option Str)) : He.Defn) ∈ tfL := by unfold tfL; exact List.mem_cons_of_mem _ (List.mem_cons_of_mem _ (List.mem_cons_of_mem _ List.mem_cons_self))
  have m1 : (tabX K "_law_tx_read_paper", fun _ _ => Str.ofString "_law_tx_read_paper.<locals>.<lambda>") ∈ TTk K := List.mem_cons_self
  have m2 : (tabX K "_law_paper_right", fun _ _ => Str.ofString "_law_paper_right.<locals>.<lambda>") ∈ TTk K := List.mem_cons_of_mem _ List.mem_cons_self
  have m3 : (tabX K "_law_bounds_right", fun _ _ => Str.ofString "_law_bounds_right.<locals>.<lambda>") ∈ TTk K := List.mem_cons_of_mem _ (List.mem_cons_of_mem _ List.mem_cons_self)
  have m4 : (tabX K "law", fun _ _ => Str.ofString "law.<locals>.<lambda>") ∈ TTk K := List.mem_cons_of_mem _ (List.mem_cons_of_mem _ (List.mem_cons_of_mem _ List.mem_cons_self))
  refine ⟨PySem.W.fnOf "law" "law" (defArgs s_law) (defBody s_law) (defScope s_law) .none kV doc pm an (.ref cl) ct, tfL.map (He.cT K), spLaw K (TTk K), fun p hp => ?_, fun p hp => ?_, fun p hp => ?_, fun s u => .of_eq rfl, fun H a ns _ _ hT hS => ⟨a, ns, rfl, hS, fun p hp => ?_, fun _ => rfl⟩, fun base hK hN TB => ?_⟩
  · obtain ⟨q, hq, e⟩ := List.mem_map.mp hp
    rw [← e]
    exact c.empty q hq
  · obtain ⟨q, hq, e⟩ := List.mem_map.mp hp
    rw [← e]
    exact c.out q hq
  · obtain ⟨q, hq, e⟩ := List.mem_map.mp hp
    rw [← e]
    exact PySem.W.codeHd_of_K X (c.hd q hq)
  · unfold TTk at hp
    simp only [List.mem_cons, List.not_mem_nil, or_false] at hp
    rcases hp with z | z | z | z <;> subst z
    · exact tabN_nil (hT _ (memc _ t1))
    · exact tabN_nil (hT _ (memc _ t2))
    · exact tabN_nil (hT _ (memc _ t3))
    · exact tabN_nil (hT _ (memc _ t4))
  · have b4 := TB _ (memc _ t4)
    rw [ecl] at b4
    have A1 : AtC K mg base "_law_tx_read_paper" s__law_tx_read_paper (tabX K "_law_tx_read_paper") := atc_of (He.glo_ok X G (cd.fact 54 (f := .glo "_law_tx_read_paper") rfl)) (cd.def_ 54 (d := dD "_law_tx_read_paper" s__law_tx_read_paper) rfl) (TB _ (memc _ t1))
    have A2 : AtC K mg base "_law_paper_right" s__law_paper_right (tabX K "_law_paper_right") := atc_of (He.glo_ok X G (cd.fact 69 (f := .glo "_law_paper_right") rfl)) (cd.def_ 69 (d := dD "_law_paper_right" s__law_paper_right) rfl) (TB _ (memc _ t2))
    have A3 : AtC K mg base "_law_bounds_right" s__law_bounds_right (tabX K "_law_bounds_right") := atc_of (He.glo_ok X G (cd.fact 71 (f := .glo "_law_bounds_right") rfl)) (cd.def_ 71 (d := dD "_law_bounds_right" s__law_bounds_right) rfl) (TB _ (memc _ t3))
    exact ok_law Z M (cd__law_paper_right Z M A1 m1 u1 A2 m2 u2) (cd__law_bounds_right Z M A1 m1 u1 A3 m3 u3) lk hcd b4 m4 u4
end
end Fd
-- E4
/-! The law holds. -/
open PySem PySem.W PySem.Calls PyProof.Rows
theorem PySem.Challenge.cw_bornandshut_k88_papers_as_lines_holds : PySem.Challenge.rw_bornandshut_k88_papers_as_lines.Holds := by
  w_on; o_law
  refine HandSHeadRun.head_any (r := OpenLaw.row PySem.Challenge.rw_bornandshut_k88_papers_as_lines) (q := view (OpenLaw.row PySem.Challenge.rw_bornandshut_k88_papers_as_lines).prog [100]) (H := Fd.hookQ Fd.faL Fd.fnL Fd.tfL Fd.exB) (ob := fun s => Fd.obsQ Fd.faL Fd.fnL Fd.tfL Fd.exB (HandSHeadRun.getT s)) (M := 6000) (loose := Fd.loL) (d := HandSHeadRun.topDef (OpenLaw.row PySem.Challenge.rw_bornandshut_k88_papers_as_lines).prog 100) (kwd := []) Fd.obsQ_eq
    (by kernel_rfl) (fun s => by kernel_rfl) Fd.runX (by kernel_rfl) (by kernel_rfl) (by kernel_rfl) (by rfl) (by first | assumption | decide +kernel) (by decide +kernel) ⟨rfl, rfl, rfl, rfl, rfl, by decide +kernel⟩ ?hw ?hc
  case hw => w_witness2
  case hc =>
    refine LamX.walk_ofTsE (l := PySem.Challenge.rw_bornandshut_k88_papers_as_lines) (n := 63) (k := 14) (x := "script") (CX := fun _ => L2.CX0) rfl (by decide) (by kernel_rfl) ⟨rfl, by decide, by decide⟩ ?F (fun _ _ _ _ _ z => z)
    intro w mg fa h Y G hmg0
    obtain ⟨K, KX, c⟩ := Y
    have hmg : mg ("law" : PySem.Str) = some (.ref fa) := by
      have e : (HandSHeadRun.topDef (OpenLaw.row PySem.Challenge.rw_bornandshut_k88_papers_as_lines).prog 100).name = ("law" : PySem.Str) := by kernel_rfl
      rw [← e]
      exact hmg0
    exact ⟨K, KX, Fd.law_at KX G hmg c⟩
