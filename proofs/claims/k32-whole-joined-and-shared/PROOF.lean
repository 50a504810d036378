import PyProof.Rows.All
import Wide.All
import OpenK.AllK
import Wide.FinOn
import HandS.ForMost
import HandS.Codes
import HandS.Walk
import HandS.TupAny
import HandS.Zip
import HandS.NoneIn
import HandS.Conv
import HandS.IsInst
import HandS.WideBits
import KE.GoesEnum
import KE.GoesMore
import HandS.ListItems
import HandS.Small
import HandS.Sort
import HandS.TupSets
import KE.KeyNested
import KE.KDictKeyed
import HandS.Strs
import HandS.SetFor
import HandS.DictComp
import HandS.DictTup
import HandS.Iter
import PySem.Challenge.RW_everyring_k32_whole_joined_and_shared
set_option Elab.async false
set_option linter.all false
set_option maxRecDepth 100000
set_option maxHeartbeats 4000000
/-! A layer over HandS: what an expression is worth as DATA, in an environment of slots that hold data or lists of one's own. -/
namespace Evr
open PySem PySem.Spec PyProof.Rows L2

theorem same_t {K : PySem.W.Frag} {H H' : Hp} {a : Addr} {xs : List V} (e : Same H H') (h : SqT K H a xs) : SqT K H' a xs := by
  rcases h with (h | ⟨o, h⟩) | h
  · exact .inl (.inl (e _ _ h))
  · exact .inl (.inr ⟨o, e _ _ h⟩)
  · exact .inr h
theorem same_new {H : Hp} {p : Addr} {o : HO} (n : H p = none) : Same H (upd H p o) := fun b u q => by
  rw [upd_ne (ne_of_none q n)]
  exact q
mutual
theorem dp_mono {K : PySem.W.Frag} {H H' : Hp} (e : Same H H') : ∀ (d : PyData) (v : V), Dp K H v d → Dp K H' v d
  | .none, _, h => by cases h; exact .non
  | .bool b, _, h => by cases h; exact .bl b
  | .int i, _, h => by cases h; exact .int i
  | .str x, _, h => by cases h; exact .str x
  | .list ds, _, h => by
    cases h with
    | lst hs ha => exact .lst (e.seq hs) (dps_mono e ds _ ha)
  | .tuple ds, _, h => by
    cases h with
    | tup hs ha => exact .tup (same_t e hs) (dps_mono e ds _ ha)
  | .dict _, _, h => by cases h
theorem dps_mono {K : PySem.W.Frag} {H H' : Hp} (e : Same H H') : ∀ (ds : List PyData) (vs : List V), DpAll K H vs ds → DpAll K H' vs ds
  | [], _, h => by cases h; exact .nil
  | d :: ds, _, h => by
    cases h with
    | cons h1 h2 => exact .cons (dp_mono e d _ h1) (dps_mono e ds _ h2)
end
section
variable {K : PySem.W.Frag} {H : Hp}
theorem dps_len : ∀ {vs : List V} {ds : List PyData}, DpAll K H vs ds → vs.length = ds.length
  | _, [], h => by cases h; rfl
  | _, _ :: _, h => by
    cases h with
    | cons _ t => exact congrArg (· + 1) (dps_len t)
theorem dps_get : ∀ {vs : List V} {ds : List PyData} {i : Nat} {d : PyData}, DpAll K H vs ds → ds[i]? = some d → ∃ v, vs[i]? = some v ∧ Dp K H v d
  | _, [], i, d, _, e => by simp at e
  | _, _ :: _, 0, d, h, e => by
    cases h with
    | cons r _ =>
      have e' := Option.some.inj e
      subst e'
      exact ⟨_, rfl, r⟩
  | _, _ :: _, i + 1, d, h, e => by
    cases h with
    | cons _ t =>
      obtain ⟨v, h1, h2⟩ := dps_get (i := i) t (by simpa using e)
      exact ⟨v, by simpa using h1, h2⟩
theorem dps_getV : ∀ {vs : List V} {ds : List PyData} {i : Nat} {v : V}, DpAll K H vs ds → vs[i]? = some v → ∃ d, ds[i]? = some d ∧ Dp K H v d
  | [], _, i, v, _, e => by simp at e
  | _ :: _, _, 0, v, h, e => by
    cases h with
    | cons r _ =>
      have e' := Option.some.inj e
      subst e'
      exact ⟨_, rfl, r⟩
  | _ :: _, _, i + 1, v, h, e => by
    cases h with
    | cons _ t =>
      obtain ⟨d, h1, h2⟩ := dps_getV (i := i) t (by simpa using e)
      exact ⟨d, by simpa using h1, h2⟩
theorem dps_app : ∀ {vs ws : List V} {ds es : List PyData}, DpAll K H vs ds → DpAll K H ws es → DpAll K H (vs ++ ws) (ds ++ es)
  | _, _, [], _, h, t => by cases h; exact t
  | _, _, _ :: _, _, h, t => by
    cases h with
    | cons r h => exact .cons r (dps_app h t)
theorem dps_set {v : V} {d : PyData} (r : Dp K H v d) : ∀ {vs : List V} {ds : List PyData} (i : Nat), DpAll K H vs ds → DpAll K H (vs.set i v) (ds.set i d)
  | _, [], _, h => by cases h; exact .nil
  | _, _ :: _, 0, h => by
    cases h with
    | cons _ t => exact .cons r t
  | _, _ :: _, i + 1, h => by
    cases h with
    | cons q t => exact .cons q (dps_set r i t)
theorem dps_take : ∀ {vs : List V} {ds : List PyData} (n : Nat), DpAll K H vs ds → DpAll K H (vs.take n) (ds.take n)
  | _, _, 0, _ => .nil
  | _, [], _ + 1, h => by cases h; exact .nil
  | _, _ :: _, n + 1, h => by
    cases h with
    | cons q t => exact .cons q (dps_take n t)
theorem dps_drop : ∀ {vs : List V} {ds : List PyData} (n : Nat), DpAll K H vs ds → DpAll K H (vs.drop n) (ds.drop n)
  | _, _, 0, h => h
  | _, [], _ + 1, h => by cases h; exact .nil
  | _, _ :: _, n + 1, h => by
    cases h with
    | cons q t => exact dps_drop n t
theorem dps_erase : ∀ {vs : List V} {ds : List PyData} (n : Nat), DpAll K H vs ds → DpAll K H (vs.eraseIdx n) (ds.eraseIdx n)
  | _, [], _, h => by cases h; exact .nil
  | _, _ :: _, 0, h => by
    cases h with
    | cons _ t => exact t
  | _, _ :: _, n + 1, h => by
    cases h with
    | cons q t => exact .cons q (dps_erase n t)
theorem dps_snoc {vs : List V} {ds : List PyData} {v : V} {d : PyData} (h : DpAll K H vs ds) (r : Dp K H v d) : DpAll K H (vs ++ [v]) (ds ++ [d]) := dps_app h (.cons r .nil)
theorem dps_ints : ∀ (ns : List Int), DpAll K H (ns.map V.int) (ns.map PyData.int)
  | [] => .nil
  | n :: ns => .cons (.int n) (dps_ints ns)
theorem dps_bls : ∀ (ns : List Bool), DpAll K H (ns.map V.bl) (ns.map PyData.bool)
  | [] => .nil
  | n :: ns => .cons (.bl n) (dps_bls ns)
theorem dps_intsV : ∀ {ns : List Int} {vs : List V}, DpAll K H vs (ns.map PyData.int) → vs = ns.map V.int
  | [], _, h => by cases h; rfl
  | n :: ns, _, h => by
    cases h with
    | cons r t => cases r; rw [dps_intsV t]; rfl
theorem dps_blsV : ∀ {ns : List Bool} {vs : List V}, DpAll K H vs (ns.map PyData.bool) → vs = ns.map V.bl
  | [], _, h => by cases h; rfl
  | n :: ns, _, h => by
    cases h with
    | cons r t => cases r; rw [dps_blsV t]; rfl
theorem dp_int {v : V} {i : Int} (h : Dp K H v (.int i)) : v = .int i := by cases h; rfl
theorem dp_bl {v : V} {b : Bool} (h : Dp K H v (.bool b)) : v = .bl b := by cases h; rfl
theorem dp_tup {v : V} {ds : List PyData} (h : Dp K H v (.tuple ds)) : ∃ a xs, v = .ref a ∧ SqT K H a xs ∧ DpAll K H xs ds := by
  cases h with
  | tup h1 h2 => exact ⟨_, _, rfl, h1, h2⟩
theorem dp_lst {v : V} {ds : List PyData} (h : Dp K H v (.list ds)) : ∃ a xs, v = .ref a ∧ SqL K H a xs ∧ DpAll K H xs ds := by
  cases h with
  | lst h1 h2 => exact ⟨_, _, rfl, h1, h2⟩
end

/-! ### how heaps go on: H0 the frozen part, H all that is tracked -/
structure Adv (H0 H H0' H' : Hp) : Prop where
  b : Same H0 H0'
  i : Same H0' H'
  s : Same H H'
  n : ∀ p, H0 p = none → H p ≠ none → H0' p = none
theorem Adv.refl {H0 H : Hp} (i : Same H0 H) : Adv H0 H H0 H := ⟨Same.refl _, i, Same.refl _, fun _ h _ => h⟩
theorem Adv.trans {H0 H H1 H' H2 H'' : Hp} (a : Adv H0 H H1 H') (b : Adv H1 H' H2 H'') : Adv H0 H H2 H'' :=
  ⟨a.b.trans b.b, b.i, a.s.trans b.s, fun p h1 h2 => b.n p (a.n p h1 h2) (fun e => by
    cases q : H p with
    | none => exact h2 q
    | some o => rw [a.s p o q] at e; cases e)⟩
/-- a new object, frozen -/
theorem Adv.new {H0 H : Hp} {p : Addr} {o : HO} (i : Same H0 H) (n : H p = none) : Adv H0 H (upd H0 p o) (upd H p o) := by
  have n0 : H0 p = none := i.free n
  refine ⟨same_new n0, fun b u q => ?_, same_new n, fun q h1 h2 => ?_⟩
  · by_cases hb : b = p
    · subst hb; rw [upd_same] at q ⊢; exact q
    · rw [upd_ne hb] at q ⊢; exact i b u q
  · rw [upd_ne (fun e => h2 (by rw [e]; exact n))]
    exact h1

/-! ### slots -/
inductive Sl where
  | no
  | d (x : PyData)
  | own (xs : List PyData) (pin : Option Addr := none)
  | obj (o : HO)
  | fr (φ : Hp → V → Prop)
def SlOk (K : PySem.W.Frag) (h H0 H : Hp) : Sl → Option V → Prop
  | .no, _ => True
  | .d x, o => ∃ v, o = some v ∧ Dp K H0 v x
  | .own xs pin, o => ∃ p vs, o = some (.ref p) ∧ h p = none ∧ H0 p = none ∧ H p = some (.lst vs) ∧ DpAll K H0 vs xs ∧ ∀ q, pin = some q → p = q
  | .obj u, o => ∃ p, o = some (.ref p) ∧ h p = none ∧ H0 p = none ∧ H p = some u ∧ ∀ vs, u ≠ .lst vs
  | .fr φ, o => ∃ v, o = some v ∧ ∀ G, Same H0 G → φ G v
structure Sat (K : PySem.W.Frag) (h H0 : Hp) (σ : L2.St) (H : Hp) (Γ : List Sl) : Prop where
  i : Same H0 H
  len : σ.length = Γ.length
  at_ : ∀ (i : Nat) (s : Sl), Γ[i]? = some s → ∃ o, σ[i]? = some o ∧ SlOk K h H0 H s o
  sep : ∀ (i j : Nat) (xs ys : List PyData) (p : Addr) {p1 p2 : Option Addr}, Γ[i]? = some (.own xs p1) → Γ[j]? = some (.own ys p2) → σ[i]? = some (some (.ref p)) → σ[j]? = some (some (.ref p)) → i = j
section
variable {K : PySem.W.Frag} {h H0 H H0' H' : Hp} {σ : L2.St} {Γ : List Sl}
theorem SlOk.adv {s : Sl} {o : Option V} (x : SlOk K h H0 H s o) (a : Adv H0 H H0' H') : SlOk K h H0' H' s o := by
  cases s with
  | no => trivial
  | d x' =>
    obtain ⟨v, e, q⟩ := x
    exact ⟨v, e, dp_mono a.b _ _ q⟩
  | own xs =>
    obtain ⟨p, vs, e, n1, n2, l, q⟩ := x
    exact ⟨p, vs, e, n1, a.n p n2 (by rw [l]; simp), a.s _ _ l, dps_mono a.b _ _ q.1, q.2⟩
  | obj u =>
    obtain ⟨p, e, n1, n2, l, q⟩ := x
    exact ⟨p, e, n1, a.n p n2 (by rw [l]; simp), a.s _ _ l, q⟩
  | fr φ =>
    obtain ⟨v, e, q⟩ := x
    exact ⟨v, e, fun G g => q G (a.b.trans g)⟩
theorem Sat.adv (x : Sat K h H0 σ H Γ) (a : Adv H0 H H0' H') : Sat K h H0' σ H' Γ :=
  ⟨a.i, x.len, fun i s e => by
    obtain ⟨o, e1, q⟩ := x.at_ i s e
    exact ⟨o, e1, q.adv a⟩, x.sep⟩
theorem Sat.get (x : Sat K h H0 σ H Γ) {i : Nat} {d : PyData} (e : Γ[i]? = some (.d d)) : ∃ v, σ[i]? = some (some v) ∧ Dp K H0 v d := by
  obtain ⟨o, e1, v, rfl, q⟩ := x.at_ i _ e
  exact ⟨v, e1, q⟩
theorem Sat.getOwn (x : Sat K h H0 σ H Γ) {i : Nat} {xs : List PyData} {pin : Option Addr} (e : Γ[i]? = some (.own xs pin)) : ∃ p vs, σ[i]? = some (some (.ref p)) ∧ h p = none ∧ H0 p = none ∧ H p = some (.lst vs) ∧ DpAll K H0 vs xs := by
  obtain ⟨o, e1, p, vs, rfl, z1, z2, z3, z4, _⟩ := x.at_ i _ e
  exact ⟨p, vs, e1, z1, z2, z3, z4⟩
theorem Sat.getPin (x : Sat K h H0 σ H Γ) {i : Nat} {xs : List PyData} {r : Addr} (e : Γ[i]? = some (.own xs (some r))) : σ[i]? = some (some (.ref r)) := by
  obtain ⟨o, e1, p, vs, rfl, z1, z2, z3, z4, z5⟩ := x.at_ i _ e
  rw [e1, z5 r rfl]
theorem get_set {α : Type} {l : List α} {i j : Nat} {x y : α} (h : (l.set i x)[j]? = some y) : (j = i ∧ y = x) ∨ (j ≠ i ∧ l[j]? = some y) := by
  by_cases e : j = i
  · subst e
    rw [List.getElem?_set_self'] at h
    cases q : l[j]? with
    | none => rw [q] at h; cases h
    | some z =>
      rw [q] at h
      exact .inl ⟨rfl, (Option.some.inj h).symm⟩
  · rw [List.getElem?_set_ne (Ne.symm e)] at h
    exact .inr ⟨e, h⟩
theorem Sat.lt (x : Sat K h H0 σ H Γ) {i : Nat} {s : Sl} (e : Γ[i]? = some s) : i < σ.length := by
  obtain ⟨o, e1, _⟩ := x.at_ i s e
  exact (List.getElem?_eq_some_iff.mp e1).1
/-- a slot is given a value that is data -/
theorem Sat.setD (x : Sat K h H0 σ H Γ) {i : Nat} {v : V} {d : PyData} (q : Dp K H0 v d) : Sat K h H0 (σ.set i (some v)) H (Γ.set i (.d d)) := by
  refine ⟨x.i, by rw [List.length_set, List.length_set, x.len], fun j s e => ?_, fun j k xs ys p _ _ e1 e2 e3 e4 => ?_⟩
  · rcases get_set e with ⟨rfl, rfl⟩ | ⟨hj, e'⟩
    · have hl : j < σ.length := by
        rw [x.len]
        have := (List.getElem?_eq_some_iff.mp e).1
        rw [List.length_set] at this
        exact this
      exact ⟨some v, by rw [List.getElem?_set_self hl], v, rfl, q⟩
    · obtain ⟨o, e1, q1⟩ := x.at_ j s e'
      exact ⟨o, by rw [List.getElem?_set_ne (Ne.symm hj)]; exact e1, q1⟩
  · rcases get_set e1 with ⟨_, z⟩ | ⟨h1, e1'⟩
    · cases z
    rcases get_set e2 with ⟨_, z⟩ | ⟨h2, e2'⟩
    · cases z
    rw [List.getElem?_set_ne (Ne.symm h1)] at e3
    rw [List.getElem?_set_ne (Ne.symm h2)] at e4
    exact x.sep j k xs ys p e1' e2' e3 e4
/-- .. a new list of one's own -/
theorem Sat.setOwn (x : Sat K h H0 σ H Γ) {i : Nat} {p : Addr} {vs : List V} {xs : List PyData} (n : H p = none) (nh : h p = none) (q : DpAll K H0 vs xs) : Sat K h H0 (σ.set i (some (.ref p))) (upd H p (.lst vs)) (Γ.set i (.own xs)) := by
  have n0 : H0 p = none := x.i.free n
  have ns : ∀ (j : Nat) (ys : List PyData) (r : Addr) {pn : Option Addr}, Γ[j]? = some (.own ys pn) → σ[j]? = some (some (.ref r)) → r ≠ p := fun j ys r _ e1 e2 z => by
    obtain ⟨p', vs', e, _, _, l, _⟩ := x.getOwn e1
    rw [e2] at e
    cases e
    rw [z, n] at l
    cases l
  refine ⟨fun b o e => ?_, by rw [List.length_set, List.length_set, x.len], fun j s e => ?_, fun j k ys zs r _ _ e1 e2 e3 e4 => ?_⟩
  · rw [upd_ne (ne_of_none e n0)]
    exact x.i b o e
  · rcases get_set e with ⟨rfl, rfl⟩ | ⟨hj, e'⟩
    · have hl : j < σ.length := by
        rw [x.len]
        have := (List.getElem?_eq_some_iff.mp e).1
        rw [List.length_set] at this
        exact this
      exact ⟨some (.ref p), by rw [List.getElem?_set_self hl], p, vs, rfl, nh, n0, upd_same, q, fun _ z => by cases z⟩
    · obtain ⟨o, e1, q1⟩ := x.at_ j s e'
      refine ⟨o, by rw [List.getElem?_set_ne (Ne.symm hj)]; exact e1, ?_⟩
      cases s with
      | no => trivial
      | d y => exact q1
      | fr φ => exact q1
      | own ys =>
        obtain ⟨r, ws, e2, z1, z2, l, z3⟩ := q1
        exact ⟨r, ws, e2, z1, z2, by rw [upd_ne (ne_of_none l n)]; exact l, z3⟩
      | obj u =>
        obtain ⟨r, e2, z1, z2, l, z3⟩ := q1
        exact ⟨r, e2, z1, z2, by rw [upd_ne (ne_of_none l n)]; exact l, z3⟩
  · rcases get_set e1 with ⟨h1, _⟩ | ⟨h1, e1'⟩
    · rcases get_set e2 with ⟨h2, _⟩ | ⟨h2, e2'⟩
      · rw [h1, h2]
      · exfalso
        rw [h1, List.getElem?_set_self (by rw [x.len]; have := (List.getElem?_eq_some_iff.mp e1).1; rw [List.length_set] at this; rw [← h1]; exact this)] at e3
        cases e3
        rw [List.getElem?_set_ne (Ne.symm h2)] at e4
        exact ns k zs p e2' e4 rfl
    · rw [List.getElem?_set_ne (Ne.symm h1)] at e3
      rcases get_set e2 with ⟨h2, _⟩ | ⟨h2, e2'⟩
      · exfalso
        rw [h2, List.getElem?_set_self (by rw [x.len]; have := (List.getElem?_eq_some_iff.mp e2).1; rw [List.length_set] at this; rw [← h2]; exact this)] at e4
        cases e4
        exact ns j ys p e1' e3 rfl
      · rw [List.getElem?_set_ne (Ne.symm h2)] at e4
        exact x.sep j k ys zs r e1' e2' e3 e4
/-- a list of one's own is changed -/
theorem Sat.write (x : Sat K h H0 σ H Γ) {i : Nat} {p : Addr} {vs : List V} {xs ys : List PyData} {pin : Option Addr} (e : Γ[i]? = some (.own xs pin)) (ep : σ[i]? = some (some (.ref p))) (q : DpAll K H0 vs ys) : Sat K h H0 σ (upd H p (.lst vs)) (Γ.set i (.own ys pin)) := by
  obtain ⟨p', ws, e', n1, n0, l, _⟩ := x.getOwn e
  rw [ep] at e'
  cases e'
  have hpin : ∀ q, pin = some q → p = q := fun r er => by
    subst er
    have := x.getPin e
    rw [ep] at this
    cases this
    rfl
  refine ⟨fun b o z => ?_, by rw [List.length_set, x.len], fun j s z => ?_, fun j k zs us r _ _ e1 e2 e3 e4 => ?_⟩
  · rw [upd_ne (ne_of_none z n0)]
    exact x.i b o z
  · rcases get_set z with ⟨rfl, rfl⟩ | ⟨hj, e'⟩
    · exact ⟨some (.ref p), ep, p, vs, rfl, n1, n0, upd_same, q, hpin⟩
    · obtain ⟨o, e1, q1⟩ := x.at_ j s e'
      refine ⟨o, e1, ?_⟩
      cases s with
      | no => trivial
      | d y => exact q1
      | fr φ => exact q1
      | own us =>
        obtain ⟨r, ts, e2, z1, z2, l2, z3⟩ := q1
        have hrp : r ≠ p := fun er => by
          rw [e2, er] at e1
          exact hj (x.sep j i us xs p e' e e1 ep)
        exact ⟨r, ts, e2, z1, z2, by rw [upd_ne hrp]; exact l2, z3⟩
      | obj u =>
        obtain ⟨r, e2, z1, z2, l2, z3⟩ := q1
        have hrp : r ≠ p := fun er => by
          rw [er, l] at l2
          exact z3 ws (Option.some.inj l2).symm
        exact ⟨r, e2, z1, z2, by rw [upd_ne hrp]; exact l2, z3⟩
  · have f : ∀ {m : Nat} {ts : List PyData} {pn : Option Addr}, (Γ.set i (.own ys pin))[m]? = some (.own ts pn) → ∃ ts' pn', Γ[m]? = some (.own ts' pn') := fun {m ts pn} hm => by
      rcases get_set hm with ⟨rfl, _⟩ | ⟨_, hm⟩
      · exact ⟨xs, _, e⟩
      · exact ⟨ts, _, hm⟩
    obtain ⟨_, _, f1⟩ := f e1
    obtain ⟨_, _, f2⟩ := f e2
    exact x.sep j k _ _ r f1 f2 e3 e4
/-- a list of one's own becomes data -/
theorem Sat.freeze (x : Sat K h H0 σ H Γ) {i : Nat} {xs : List PyData} {pin : Option Addr} (e : Γ[i]? = some (.own xs pin)) : ∃ H0', Sat K h H0' σ H (Γ.set i (.d (.list xs))) ∧ Same H0 H0' ∧ ∀ p, H0' p ≠ none → H0 p ≠ none ∨ h p = none := by
  obtain ⟨p, vs, ep, n1, n0, l, q⟩ := x.getOwn e
  refine ⟨upd H0 p (.lst vs), ⟨fun b o z => ?_, by rw [List.length_set, x.len], fun j s z => ?_, fun j k zs us r _ _ e1 e2 e3 e4 => ?_⟩, same_new n0, fun b z => ?_⟩
  · by_cases hb : b = p
    · subst hb; rw [upd_same] at z; rw [← z]; exact l
    · rw [upd_ne hb] at z; exact x.i b o z
  · rcases get_set z with ⟨rfl, rfl⟩ | ⟨hj, e'⟩
    · exact ⟨some (.ref p), ep, .ref p, rfl, .lst (SqL.of upd_same) (dps_mono (same_new n0) _ _ q)⟩
    · obtain ⟨o, e1, q1⟩ := x.at_ j s e'
      refine ⟨o, e1, ?_⟩
      cases s with
      | no => trivial
      | d y =>
        obtain ⟨v, e2, q2⟩ := q1
        exact ⟨v, e2, dp_mono (same_new n0) _ _ q2⟩
      | fr φ =>
        obtain ⟨v, e2, q2⟩ := q1
        exact ⟨v, e2, fun G g => q2 G ((same_new n0).trans g)⟩
      | own us =>
        obtain ⟨r, ts, e2, z1, z2, l2, z3⟩ := q1
        have hrp : r ≠ p := fun er => by
          rw [e2, er] at e1
          exact hj (x.sep j i us xs p e' e e1 ep)
        exact ⟨r, ts, e2, z1, by rw [upd_ne hrp]; exact z2, l2, dps_mono (same_new n0) _ _ z3.1, z3.2⟩
      | obj u =>
        obtain ⟨r, e2, z1, z2, l2, z3⟩ := q1
        have hrp : r ≠ p := fun er => by
          rw [er, l] at l2
          exact z3 vs (Option.some.inj l2).symm
        exact ⟨r, e2, z1, by rw [upd_ne hrp]; exact z2, l2, z3⟩
  · rcases get_set e1 with ⟨_, z⟩ | ⟨h1, e1'⟩
    · cases z
    rcases get_set e2 with ⟨_, z⟩ | ⟨h2, e2'⟩
    · cases z
    exact x.sep j k _ _ r e1' e2' e3 e4
  · by_cases hb : b = p
    · exact .inr (by rw [hb]; exact n1)
    · rw [upd_ne hb] at z
      exact .inl z
theorem Sat.getObj (x : Sat K h H0 σ H Γ) {i : Nat} {u : HO} (e : Γ[i]? = some (.obj u)) : ∃ p, σ[i]? = some (some (.ref p)) ∧ h p = none ∧ H0 p = none ∧ H p = some u ∧ ∀ vs, u ≠ .lst vs := by
  obtain ⟨o, e1, p, rfl, q⟩ := x.at_ i _ e
  exact ⟨p, e1, q⟩
/-- a slot is given a new object of one's own -/
theorem Sat.setObj (x : Sat K h H0 σ H Γ) {i : Nat} {p : Addr} {u : HO} (n : H p = none) (nh : h p = none) (hu : ∀ vs, u ≠ .lst vs) : Sat K h H0 (σ.set i (some (.ref p))) (upd H p u) (Γ.set i (.obj u)) := by
  have n0 : H0 p = none := x.i.free n
  refine ⟨fun b o e => ?_, by rw [List.length_set, List.length_set, x.len], fun j s e => ?_, fun j k ys zs r _ _ e1 e2 e3 e4 => ?_⟩
  · rw [upd_ne (ne_of_none e n0)]
    exact x.i b o e
  · rcases get_set e with ⟨rfl, rfl⟩ | ⟨hj, e'⟩
    · have hl : j < σ.length := by
        rw [x.len]
        have := (List.getElem?_eq_some_iff.mp e).1
        rw [List.length_set] at this
        exact this
      exact ⟨some (.ref p), by rw [List.getElem?_set_self hl], p, rfl, nh, n0, upd_same, hu⟩
    · obtain ⟨o, e1, q1⟩ := x.at_ j s e'
      refine ⟨o, by rw [List.getElem?_set_ne (Ne.symm hj)]; exact e1, ?_⟩
      cases s with
      | no => trivial
      | d y => exact q1
      | fr φ => exact q1
      | own ys =>
        obtain ⟨r, ws, e2, z1, z2, l, z3⟩ := q1
        exact ⟨r, ws, e2, z1, z2, by rw [upd_ne (ne_of_none l n)]; exact l, z3⟩
      | obj w =>
        obtain ⟨r, e2, z1, z2, l, z3⟩ := q1
        exact ⟨r, e2, z1, z2, by rw [upd_ne (ne_of_none l n)]; exact l, z3⟩
  · rcases get_set e1 with ⟨_, z⟩ | ⟨h1, e1'⟩
    · cases z
    rcases get_set e2 with ⟨_, z⟩ | ⟨h2, e2'⟩
    · cases z
    rw [List.getElem?_set_ne (Ne.symm h1)] at e3
    rw [List.getElem?_set_ne (Ne.symm h2)] at e4
    exact x.sep j k _ _ r e1' e2' e3 e4
theorem Sat.getFr (x : Sat K h H0 σ H Γ) {i : Nat} {φ : Hp → V → Prop} (e : Γ[i]? = some (.fr φ)) : ∃ v, σ[i]? = some (some v) ∧ ∀ G, Same H0 G → φ G v := by
  obtain ⟨o, e1, v, rfl, q⟩ := x.at_ i _ e
  exact ⟨v, e1, q⟩
theorem Sat.setFr (x : Sat K h H0 σ H Γ) {i : Nat} {v : V} {φ : Hp → V → Prop} (q : ∀ G, Same H0 G → φ G v) : Sat K h H0 (σ.set i (some v)) H (Γ.set i (.fr φ)) := by
  refine ⟨x.i, by rw [List.length_set, List.length_set, x.len], fun j s e => ?_, fun j k xs ys p _ _ e1 e2 e3 e4 => ?_⟩
  · rcases get_set e with ⟨rfl, rfl⟩ | ⟨hj, e'⟩
    · have hl : j < σ.length := by
        rw [x.len]
        have := (List.getElem?_eq_some_iff.mp e).1
        rw [List.length_set] at this
        exact this
      exact ⟨some v, by rw [List.getElem?_set_self hl], v, rfl, q⟩
    · obtain ⟨o, e1, q1⟩ := x.at_ j s e'
      exact ⟨o, by rw [List.getElem?_set_ne (Ne.symm hj)]; exact e1, q1⟩
  · rcases get_set e1 with ⟨_, z⟩ | ⟨h1, e1'⟩
    · cases z
    rcases get_set e2 with ⟨_, z⟩ | ⟨h2, e2'⟩
    · cases z
    rw [List.getElem?_set_ne (Ne.symm h1)] at e3
    rw [List.getElem?_set_ne (Ne.symm h2)] at e4
    exact x.sep j k xs ys p e1' e2' e3 e4
/-- .. is changed, the only one -/
theorem Sat.writeObj (x : Sat K h H0 σ H Γ) {i : Nat} {p : Addr} {u u' : HO} (e : Γ[i]? = some (.obj u)) (ep : σ[i]? = some (some (.ref p))) (one : ∀ (j : Nat) w, Γ[j]? = some (.obj w) → j = i) (hu : ∀ vs, u' ≠ .lst vs) : Sat K h H0 σ (upd H p u') (Γ.set i (.obj u')) := by
  obtain ⟨p', e', n1, n0, l, hl⟩ := x.getObj e
  rw [ep] at e'
  cases e'
  refine ⟨fun b o z => ?_, by rw [List.length_set, x.len], fun j s z => ?_, fun j k zs us r _ _ e1 e2 e3 e4 => ?_⟩
  · rw [upd_ne (ne_of_none z n0)]
    exact x.i b o z
  · rcases get_set z with ⟨rfl, rfl⟩ | ⟨hj, e'⟩
    · exact ⟨some (.ref p), ep, p, rfl, n1, n0, upd_same, hu⟩
    · obtain ⟨o, e1, q1⟩ := x.at_ j s e'
      refine ⟨o, e1, ?_⟩
      cases s with
      | no => trivial
      | d y => exact q1
      | fr φ => exact q1
      | own us =>
        obtain ⟨r, ts, e2, z1, z2, l2, z3⟩ := q1
        have hrp : r ≠ p := fun er => by
          rw [er, l] at l2
          exact hl ts (Option.some.inj l2)
        exact ⟨r, ts, e2, z1, z2, by rw [upd_ne hrp]; exact l2, z3⟩
      | obj w => exact absurd (one j w e') hj
  · rcases get_set e1 with ⟨_, z⟩ | ⟨h1, e1'⟩
    · cases z
    rcases get_set e2 with ⟨_, z⟩ | ⟨h2, e2'⟩
    · cases z
    exact x.sep j k _ _ r e1' e2' e3 e4
/-- a slot is forgotten -/
theorem Sat.drop (x : Sat K h H0 σ H Γ) (i : Nat) : Sat K h H0 σ H (Γ.set i .no) := by
  refine ⟨x.i, by rw [List.length_set, x.len], fun j s e => ?_, fun j k xs ys p _ _ e1 e2 e3 e4 => ?_⟩
  · rcases get_set e with ⟨rfl, rfl⟩ | ⟨hj, e'⟩
    · have hl : j < σ.length := by
        rw [x.len]
        have := (List.getElem?_eq_some_iff.mp e).1
        rw [List.length_set] at this
        exact this
      exact ⟨σ[j], by rw [List.getElem?_eq_getElem hl], trivial⟩
    · exact x.at_ j s e'
  · rcases get_set e1 with ⟨_, z⟩ | ⟨h1, e1'⟩
    · cases z
    rcases get_set e2 with ⟨_, z⟩ | ⟨h2, e2'⟩
    · cases z
    exact x.sep j k xs ys p e1' e2' e3 e4
theorem Sat.none (x : Sat K h H0 σ H Γ) (i : Nat) : Sat K h H0 (σ.set i none) H (Γ.set i .no) := by
  refine ⟨x.i, by rw [List.length_set, List.length_set, x.len], fun j s e => ?_, fun j k xs ys p _ _ e1 e2 e3 e4 => ?_⟩
  · rcases get_set e with ⟨rfl, rfl⟩ | ⟨hj, e'⟩
    · have hl : j < σ.length := by
        rw [x.len]
        have := (List.getElem?_eq_some_iff.mp e).1
        rw [List.length_set] at this
        exact this
      exact ⟨Option.none, by rw [List.getElem?_set_self hl], trivial⟩
    · obtain ⟨o, e1, q1⟩ := x.at_ j s e'
      exact ⟨o, by rw [List.getElem?_set_ne (Ne.symm hj)]; exact e1, q1⟩
  · rcases get_set e1 with ⟨_, z⟩ | ⟨h1, e1'⟩
    · cases z
    rcases get_set e2 with ⟨_, z⟩ | ⟨h2, e2'⟩
    · cases z
    rw [List.getElem?_set_ne (Ne.symm h1)] at e3
    rw [List.getElem?_set_ne (Ne.symm h2)] at e4
    exact x.sep j k xs ys p e1' e2' e3 e4
def wipeG (Γ : List Sl) : List Nat → List Sl
  | [] => Γ
  | v :: vs => (wipeG Γ vs).set v .no
theorem Sat.wipe (x : Sat K h H0 σ H Γ) : ∀ vs : List Nat, Sat K h H0 (wipe σ vs) H (wipeG Γ vs)
  | [] => x
  | v :: vs => (Sat.wipe x vs).none v
theorem wipe_in {σ : L2.St} {j : Nat} {x : Option V} : ∀ {vs : List Nat}, j ∈ vs → L2.wipe (σ.set j x) vs = L2.wipe σ vs
  | [], h => by cases h
  | v :: vs, h => by
    show (L2.wipe (σ.set j x) vs).set v Option.none = (L2.wipe σ vs).set v Option.none
    by_cases hm : j ∈ vs
    · rw [wipe_in hm]
    · have hv : j = v := by
        rcases List.mem_cons.mp h with e | e
        · exact e
        · exact absurd e hm
      subst hv
      have aux : ∀ {ws : List Nat} {τ : L2.St}, L2.wipe (τ.set j x) ws = (L2.wipe τ ws).set j x ∨ j ∈ ws := by
        intro ws
        induction ws with
        | nil => intro τ; exact .inl rfl
        | cons w ws ih =>
          intro τ
          by_cases hw : j ∈ w :: ws
          · exact .inr hw
          · rcases ih (τ := τ) with e | e
            · left
              show (L2.wipe (τ.set j x) ws).set w Option.none = ((L2.wipe τ ws).set w Option.none).set j x
              rw [e, List.set_comm]
              exact fun z => hw (by rw [z]; exact List.mem_cons_self)
            · exact .inr (List.mem_cons_of_mem _ e)
      rcases aux (ws := vs) (τ := σ) with e | e
      · rw [e, List.set_set]
      · exact absurd e hm
theorem wipe_wipe {σ : L2.St} : ∀ {vs : List Nat}, L2.wipe (L2.wipe σ vs) vs = L2.wipe σ vs := by
  have aux : ∀ (ws vs : List Nat) (σ : L2.St), (∀ w ∈ ws, w ∈ vs) → L2.wipe (L2.wipe σ ws) vs = L2.wipe σ vs := by
    intro ws
    induction ws with
    | nil => intro vs σ _; rfl
    | cons w ws ih =>
      intro vs σ h
      show L2.wipe ((L2.wipe σ ws).set w Option.none) vs = L2.wipe σ vs
      rw [wipe_in (h w List.mem_cons_self)]
      exact ih vs σ fun z hz => h z (List.mem_cons_of_mem _ hz)
  exact fun {vs} => aux vs vs σ fun _ z => z
end
end Evr
set_option Elab.async false
set_option linter.all false
set_option maxRecDepth 100000
set_option maxHeartbeats 4000000
/-! What expressions, tests, arguments, statements do with data. -/
namespace Evr
open PySem PySem.Spec PyProof.Rows L2

/-! ### contexts: b a lower bound of the frozen part, f and h the frozen part and all at the entry -/
structure Cxt where
  b : Hp
  f : Hp
  h : Hp
structure At (c : Cxt) (H0 H : Hp) : Prop where
  b : Same c.b H0
  f : Same c.f H0
  i : Same H0 H
  s : Same c.h H
  n : ∀ p, c.f p = none → c.h p ≠ none → H0 p = none
abbrev Cxt.at' (c : Cxt) (b : Hp) : Cxt := ⟨b, c.f, c.h⟩
section
variable {c : Cxt} {H0 H H0' H' : Hp}
theorem At.adv (x : At c H0 H) (a : Adv H0 H H0' H') : At c H0' H' :=
  ⟨x.b.trans a.b, x.f.trans a.b, a.i, x.s.trans a.s, fun p h1 h2 => a.n p (x.n p h1 h2) fun e => by
    cases q : c.h p with
    | none => exact h2 q
    | some o => rw [x.s p o q] at e; cases e⟩
theorem At.from (x : At c H0 H) : Adv c.f c.h H0 H := ⟨x.f, x.i, x.s, x.n⟩
theorem At.base (x : At c H0 H) : At (c.at' H0) H0 H := ⟨Same.refl _, x.f, x.i, x.s, x.n⟩
theorem At.low {b : Hp} (x : At (c.at' b) H0 H) (e : Same c.b b) : At c H0 H := ⟨e.trans x.b, x.f, x.i, x.s, x.n⟩
theorem At.write (x : At c H0 H) {p : Addr} {o : HO} (n : c.h p = none) (n0 : H0 p = none) : At c H0 (upd H p o) :=
  ⟨x.b, x.f, fun b u q => by rw [upd_ne (ne_of_none q n0)]; exact x.i b u q, fun b u q => by rw [upd_ne (ne_of_none q n)]; exact x.s b u q, x.n⟩
theorem At.more (x : At c H0 H) (e : Same H0 H0') (i : Same H0' H) (n : ∀ p, H0' p ≠ none → H0 p ≠ none ∨ c.h p = none) : At c H0' H :=
  ⟨x.b.trans e, x.f.trans e, i, x.s, fun p h1 h2 => by
    cases q : H0' p with
    | none => rfl
    | some o =>
      rcases n p (by rw [q]; simp) with z | z
      · exact absurd (x.n p h1 h2) z
      · exact absurd z h2⟩
theorem At.start (i : Same H0 H) : At ⟨H0, H0, H⟩ H0 H := ⟨Same.refl _, Same.refl _, i, Same.refl _, fun _ h _ => h⟩
end

/-! ### expressions -/
def EvD (K : PySem.W.Frag) (te : TE) (Γ : List Sl) (d : PyData) : Prop :=
  ∀ h H0 σ H, Sat K h H0 σ H Γ → ∀ Q : VK, (∀ v H0' H', Adv H0 H H0' H' → Dp K H0' v d → Q v H') → te σ H Q
/-- a new list -/
def EvN (K : PySem.W.Frag) (te : TE) (Γ : List Sl) (ds : List PyData) : Prop :=
  ∀ h H0 σ H, Sat K h H0 σ H Γ → ∀ Q : VK, (∀ p vs H0' H1, Adv H0 H H0' H1 → H1 p = none → DpAll K H0' vs ds → Q (.ref p) (upd H1 p (.lst vs))) → te σ H Q
def EtD (K : PySem.W.Frag) (tt : TT) (Γ : List Sl) (b : Bool) : Prop :=
  ∀ h H0 σ H, Sat K h H0 σ H Γ → ∀ Q : Bool → Hp → Prop, (∀ H0' H', Adv H0 H H0' H' → Q b H') → tt σ H Q
def EaD (K : PySem.W.Frag) (ta : TA) (Γ : List Sl) (ds : List PyData) : Prop :=
  ∀ h H0 σ H, Sat K h H0 σ H Γ → ∀ Q : List V → Hp → Prop, (∀ vs H0' H', Adv H0 H H0' H' → DpAll K H0' vs ds → Q vs H') → ta σ H Q
def EoD (K : PySem.W.Frag) (to : TO) (Γ : List Sl) (o : Option Int) : Prop :=
  ∀ h H0 σ H, Sat K h H0 σ H Γ → ∀ Q : Option Int → Hp → Prop, (∀ H0' H', Adv H0 H H0' H' → Q o H') → to σ H Q
/-- operators, calls by values -/
def RD (K : PySem.W.Frag) (r : R2) (d1 d2 d : PyData) : Prop :=
  ∀ H0 H x y, Same H0 H → Dp K H0 x d1 → Dp K H0 y d2 → ∀ Q : VK, (∀ v H0' H', Adv H0 H H0' H' → Dp K H0' v d → Q v H') → r x y H Q
def RN (K : PySem.W.Frag) (r : R2) (d1 d2 : PyData) (ds : List PyData) : Prop :=
  ∀ H0 H x y, Same H0 H → Dp K H0 x d1 → Dp K H0 y d2 → ∀ Q : VK, (∀ p vs H0' H1, Adv H0 H H0' H1 → H1 p = none → DpAll K H0' vs ds → Q (.ref p) (upd H1 p (.lst vs))) → r x y H Q
def RcD (K : PySem.W.Frag) (r : List V → Hp → VK → Prop) (ds : List PyData) (d : PyData) : Prop :=
  ∀ H0 H vs, Same H0 H → DpAll K H0 vs ds → ∀ Q : VK, (∀ v H0' H', Adv H0 H H0' H' → Dp K H0' v d → Q v H') → r vs H Q
def RcN (K : PySem.W.Frag) (r : List V → Hp → VK → Prop) (ds es : List PyData) : Prop :=
  ∀ H0 H vs, Same H0 H → DpAll K H0 vs ds → ∀ Q : VK, (∀ p vs H0' H1, Adv H0 H H0' H1 → H1 p = none → DpAll K H0' vs es → Q (.ref p) (upd H1 p (.lst vs))) → r vs H Q
/-- the promise of a def that is a relation of data -/
def PureF (K : PySem.W.Frag) (R : List PyData → PyData → Prop) : Sp := fun vs H Q _ =>
  ∃ H0 ds r, Same H0 H ∧ DpAll K H0 vs ds ∧ R ds r ∧ ∀ v H0' H', Adv H0 H H0' H' → Dp K H0' v r → Q v H'
/-- .. that hands back a new list -/
def NewF (K : PySem.W.Frag) (R : List PyData → List PyData → Prop) : Sp := fun vs H Q _ =>
  ∃ H0 ds es, Same H0 H ∧ DpAll K H0 vs ds ∧ R ds es ∧ ∀ p vs H0' H1, Adv H0 H H0' H1 → H1 p = none → DpAll K H0' vs es → Q (.ref p) (upd H1 p (.lst vs))
section
variable {K : PySem.W.Frag} {Γ : List Sl} {ta tb te : TE} {t u : TT} {d d1 d2 : PyData} {ds es : List PyData} {b : Bool} {r : R2}
theorem adv_list {H0 H H0' H1 : Hp} {p : Addr} {vs : List V} (a : Adv H0 H H0' H1) (n : H1 p = none) (q : DpAll K H0' vs ds) :
    Adv H0 H (upd H0' p (.lst vs)) (upd H1 p (.lst vs)) ∧ Dp K (upd H0' p (.lst vs)) (.ref p) (.list ds) :=
  ⟨a.trans (Adv.new a.i n), .lst (SqL.of upd_same) (dps_mono (same_new (a.i.free n)) _ _ q)⟩
theorem adv_tup {H0 H H0' H1 : Hp} {p : Addr} {vs : List V} (a : Adv H0 H H0' H1) (n : H1 p = none) (q : DpAll K H0' vs ds) :
    Adv H0 H (upd H0' p (.tup vs)) (upd H1 p (.tup vs)) ∧ Dp K (upd H0' p (.tup vs)) (.ref p) (.tuple ds) :=
  ⟨a.trans (Adv.new a.i n), .tup (SqT.of upd_same) (dps_mono (same_new (a.i.free n)) _ _ q)⟩
theorem EvN.toD (x : EvN K te Γ ds) : EvD K te Γ (.list ds) := fun h H0 σ H st Q q => x h H0 σ H st Q fun p vs H0' H1 a n dd => q _ _ _ (adv_list a n dd).1 (adv_list a n dd).2
theorem RN.toD (x : RN K r d1 d2 ds) : RD K r d1 d2 (.list ds) := fun H0 H v w i h1 h2 Q q => x H0 H v w i h1 h2 Q fun p vs H0' H1 a n dd => q _ _ _ (adv_list a n dd).1 (adv_list a n dd).2
theorem RcN.toD {rc : List V → Hp → VK → Prop} (x : RcN K rc es ds) : RcD K rc es (.list ds) := fun H0 H v i h1 Q q => x H0 H v i h1 Q fun p vs H0' H1 a n dd => q _ _ _ (adv_list a n dd).1 (adv_list a n dd).2
theorem EvD.is (x : EvD K te Γ d1) (e : d1 = d2) : EvD K te Γ d2 := e ▸ x
theorem EtD.is {b' : Bool} (x : EtD K t Γ b) (e : b = b') : EtD K t Γ b' := e ▸ x
theorem ed_var {i : Nat} (e : Γ[i]? = some (.d d)) : EvD K (tVar i) Γ d := fun _ _ _ _ x Q q => by
  obtain ⟨v, e1, dd⟩ := x.get e
  exact ⟨v, e1, q v _ _ (Adv.refl x.i) dd⟩
theorem ed_c {v : V} (h : ∀ H0, Dp K H0 v d) : EvD K (tC v) Γ d := fun _ H0 _ _ x Q q => q v _ _ (Adv.refl x.i) (h H0)
theorem ed_int {i : Int} : EvD K (tC (.int i)) Γ (.int i) := ed_c fun _ => .int i
theorem ed_bl : EvD K (tC (.bl b)) Γ (.bool b) := ed_c fun _ => .bl b
theorem ed_op (ha : EvD K ta Γ d1) (hb : EvD K tb Γ d2) (hr : RD K r d1 d2 d) : EvD K (tOp r ta tb) Γ d := fun h H0 σ H x Q q =>
  ha h H0 σ H x _ fun v H1 H' a1 e1 => hb h H1 σ H' (x.adv a1) _ fun w H2 H'' a2 e2 =>
    hr H2 H'' v w a2.i (dp_mono a2.b _ _ e1) e2 Q fun z H3 H3' a3 e3 => q z H3 H3' ((a1.trans a2).trans a3) e3
theorem en_op (ha : EvD K ta Γ d1) (hb : EvD K tb Γ d2) (hr : RN K r d1 d2 ds) : EvN K (tOp r ta tb) Γ ds := fun h H0 σ H x Q q =>
  ha h H0 σ H x _ fun v H1 H' a1 e1 => hb h H1 σ H' (x.adv a1) _ fun w H2 H'' a2 e2 =>
    hr H2 H'' v w a2.i (dp_mono a2.b _ _ e1) e2 Q fun p vs H3 H3' a3 n e3 => q p vs H3 H3' ((a1.trans a2).trans a3) n e3
theorem ed_un {ru : V → Hp → VK → Prop} {i j : Int} (ha : EvD K ta Γ (.int i)) (hr : ∀ H Q, Q (.int j) H → ru (.int i) H Q) : EvD K (tUn ru ta) Γ (.int j) := fun h H0 σ H x Q q =>
  ha h H0 σ H x _ fun v H1 H' a1 e1 => by
    rw [dp_int e1]
    exact hr _ _ (q _ _ _ a1 (.int j))
theorem rd_I0 {g : Int → Int → V} {i j : Int} (hg : ∀ H0, Dp K H0 (g i j) d) : RD K (rI0 g) (.int i) (.int j) d := fun H0 H x y s e1 e2 Q q =>
  ⟨i, j, dp_int e1, dp_int e2, q _ H0 H (Adv.refl s) (hg H0)⟩
theorem rd_I {C : Int → Int → Prop} {g : Int → Int → V} {i j : Int} (hc : C i j) (hg : ∀ H0, Dp K H0 (g i j) d) : RD K (rI C g) (.int i) (.int j) d := fun H0 H x y s e1 e2 Q q =>
  ⟨i, j, dp_int e1, dp_int e2, hc, q _ H0 H (Adv.refl s) (hg H0)⟩
theorem ed_i0 {g : Int → Int → Int} {i j : Int} (ha : EvD K ta Γ (.int i)) (hb : EvD K tb Γ (.int j)) : EvD K (tOp (rI0 fun i j => .int (g i j)) ta tb) Γ (.int (g i j)) := ed_op ha hb (rd_I0 fun _ => .int _)
theorem ed_i {C : Int → Int → Prop} {g : Int → Int → Int} {i j : Int} (ha : EvD K ta Γ (.int i)) (hb : EvD K tb Γ (.int j)) (hc : C i j) : EvD K (tOp (rI C fun i j => .int (g i j)) ta tb) Γ (.int (g i j)) := ed_op ha hb (rd_I hc fun _ => .int _)
theorem ed_ib {g : Int → Int → Bool} {i j : Int} (ha : EvD K ta Γ (.int i)) (hb : EvD K tb Γ (.int j)) : EvD K (tOp (rI0 fun i j => .bl (g i j)) ta tb) Γ (.bool (g i j)) := ed_op ha hb (rd_I0 fun _ => .bl _)
theorem rd_eqI {i j : Int} : RD K rEq (.int i) (.int j) (.bool (decide (i = j))) := fun H0 H x y s e1 e2 Q q => by
  rw [dp_int e1, dp_int e2]
  refine ⟨rfl, ?_⟩
  have e : decide (V.int i = V.int j) = decide (i = j) := by
    by_cases h : i = j
    · subst h; rw [decide_eq_true rfl, decide_eq_true rfl]
    · rw [decide_eq_false h, decide_eq_false fun z => h (V.int.inj z)]
  rw [e]
  exact q _ _ _ (Adv.refl s) (.bl _)
theorem rd_neI {i j : Int} : RD K rNe (.int i) (.int j) (.bool (!decide (i = j))) := fun H0 H x y s e1 e2 Q q => by
  rw [dp_int e1, dp_int e2]
  refine ⟨rfl, ?_⟩
  have e : decide (V.int i = V.int j) = decide (i = j) := by
    by_cases h : i = j
    · subst h; rw [decide_eq_true rfl, decide_eq_true rfl]
    · rw [decide_eq_false h, decide_eq_false fun z => h (V.int.inj z)]
  rw [e]
  exact q _ _ _ (Adv.refl s) (.bl _)
theorem rd_neB {i j : Bool} : RD K rNe (.bool i) (.bool j) (.bool (!decide (i = j))) := fun H0 H x y s e1 e2 Q q => by
  rw [dp_bl e1, dp_bl e2]
  refine ⟨rfl, ?_⟩
  have e : decide (V.bl i = V.bl j) = decide (i = j) := by
    by_cases h : i = j
    · subst h; rw [decide_eq_true rfl, decide_eq_true rfl]
    · rw [decide_eq_false h, decide_eq_false fun z => h (V.bl.inj z)]
  rw [e]
  exact q _ _ _ (Adv.refl s) (.bl _)
theorem rd_eqD (s1 : SeqAt.shaped d1 = true) (s2 : SeqAt.shaped d2 = true) : RD K (rEqD K) d1 d2 (.bool (PyData.eqv d1 d2)) := fun H0 H x y s e1 e2 Q q =>
  ⟨d1, d2, dp_mono s _ _ e1, dp_mono s _ _ e2, s1, s2, q _ _ _ (Adv.refl s) (.bl _)⟩
theorem rd_neD (s1 : SeqAt.shaped d1 = true) (s2 : SeqAt.shaped d2 = true) : RD K (rNeD K) d1 d2 (.bool (!PyData.eqv d1 d2)) := fun H0 H x y s e1 e2 Q q =>
  ⟨d1, d2, dp_mono s _ _ e1, dp_mono s _ _ e2, s1, s2, q _ _ _ (Adv.refl s) (.bl _)⟩
theorem atI_map {α β : Type} {xs : List α} {ys : List β} (hl : xs.length = ys.length) {i : Int} {y : β} (h : atI ys i = some y) : ∃ j, j < xs.length ∧ ixN xs.length i = some j ∧ ys[j]? = some y := by
  unfold atI at h
  cases q : ixN ys.length i with
  | none => rw [q] at h; cases h
  | some j =>
    rw [q] at h
    have h' : ys[j]? = some y := h
    refine ⟨j, ?_, by rw [hl]; exact q, h'⟩
    rw [hl]
    exact (List.getElem?_eq_some_iff.mp h').1
theorem dps_at {H : Hp} {vs : List V} {i : Int} (h : DpAll K H vs ds) (e : atI ds i = some d) : ∃ v, atI vs i = some v ∧ Dp K H v d := by
  obtain ⟨j, _, h2, h3⟩ := atI_map (dps_len h) e
  obtain ⟨v, e1, e2⟩ := dps_get h h3
  refine ⟨v, ?_, e2⟩
  unfold atI
  rw [h2]
  exact e1
theorem rd_ixT {i : Int} (e : atI ds i = some d) : RD K (rIxT K) (.tuple ds) (.int i) d := fun H0 H x y s e1 e2 Q q => by
  obtain ⟨a, xs, rfl, hs, ha⟩ := dp_tup e1
  obtain ⟨v, h1, h2⟩ := dps_at ha e
  exact ⟨a, xs, i, v, rfl, dp_int e2, same_t s hs, h1, q v _ _ (Adv.refl s) h2⟩
theorem rd_ixL {i : Int} (e : atI ds i = some d) : RD K (rIxL K) (.list ds) (.int i) d := fun H0 H x y s e1 e2 Q q => by
  obtain ⟨a, xs, rfl, hs, ha⟩ := dp_lst e1
  obtain ⟨v, h1, h2⟩ := dps_at ha e
  exact ⟨a, xs, i, v, rfl, dp_int e2, s.seq hs, h1, q v _ _ (Adv.refl s) h2⟩
theorem rd_catA (hl : ds.length + es.length ≤ 100000) : RD K (rCatA K) (.tuple ds) (.tuple es) (.tuple (ds ++ es)) := fun H0 H x y s e1 e2 Q q => by
  obtain ⟨a, xs, rfl, hs, ha⟩ := dp_tup e1
  obtain ⟨a', ys, rfl, hs', ha'⟩ := dp_tup e2
  have l1 := dps_len ha
  have l2 := dps_len ha'
  refine ⟨a, a', xs, ys, rfl, rfl, same_t s hs, same_t s hs', Nat.le_trans (by omega) (show 100000 ≤ sizeLine by decide), fun e => ?_, fun _ e => ?_, fun _ _ p hp => ?_⟩
  · subst e
    have e' : ds = [] := by cases ds with | nil => rfl | cons _ _ => cases l1
    subst e'
    exact q _ _ _ (Adv.refl s) e2
  · subst e
    have e' : es = [] := by cases es with | nil => rfl | cons _ _ => cases l2
    subst e'
    rw [List.append_nil] at q
    exact q _ _ _ (Adv.refl s) e1
  · have z := adv_tup (K := K) (Adv.refl s) hp (dps_app ha ha')
    exact q _ _ _ z.1 z.2
/-! tests -/
theorem et_test (x : EvD K te Γ (.bool b)) : EtD K (tTest te) Γ b := fun h H0 σ H st _ q => x h H0 σ H st _ fun v H0' H' a e => ⟨b, dp_bl e, q _ _ a⟩
theorem et_B (x : EvD K te Γ (.bool b)) : EtD K (tB te) Γ b := fun h H0 σ H st _ q => x h H0 σ H st _ fun v H0' H' a e => ⟨b, dp_bl e, q _ _ a⟩
theorem et_and {b1 b2 : Bool} (h1 : EtD K t Γ b1) (h2 : b1 = true → EtD K u Γ b2) : EtD K (tAnd t u) Γ (b1 && b2) := fun h H0 σ H st Q q => h1 h H0 σ H st _ fun H1 H' a => by
  cases b1 with
  | true =>
    show u σ H' Q
    exact h2 rfl h H1 σ H' (st.adv a) Q fun H2 H'' a2 => q _ _ (a.trans a2)
  | false =>
    show Q false H'
    exact q _ _ a
theorem et_or {b1 b2 : Bool} (h1 : EtD K t Γ b1) (h2 : b1 = false → EtD K u Γ b2) : EtD K (tOr t u) Γ (b1 || b2) := fun h H0 σ H st Q q => h1 h H0 σ H st _ fun H1 H' a => by
  cases b1 with
  | true =>
    show Q true H'
    exact q _ _ a
  | false =>
    show u σ H' Q
    exact h2 rfl h H1 σ H' (st.adv a) Q fun H2 H'' a2 => q _ _ (a.trans a2)
theorem et_not (h1 : EtD K t Γ b) : EtD K (tNot t) Γ (!b) := fun h H0 σ H st _ q => h1 h H0 σ H st _ fun H1 H' a => q _ _ a
/-! and, or, not as values -/
theorem ed_and {b1 b2 : Bool} (h1 : EvD K ta Γ (.bool b1)) (h2 : b1 = true → EvD K tb Γ (.bool b2)) : EvD K (tAndV ta tb) Γ (.bool (b1 && b2)) := fun h H0 σ H st Q q => h1 h H0 σ H st _ fun v H1 H' a e => ⟨b1, dp_bl e, by
  cases b1 with
  | true =>
    show tb σ H' Q
    exact h2 rfl h H1 σ H' (st.adv a) Q fun v H2 H'' a2 => q _ _ _ (a.trans a2)
  | false =>
    show Q (.bl false) H'
    exact q _ _ _ a (.bl false)⟩
theorem ed_not (h1 : EvD K ta Γ (.bool b)) : EvD K (tNotV ta) Γ (.bool (!b)) := fun h H0 σ H st Q q => h1 h H0 σ H st _ fun v H1 H' a e => ⟨b, dp_bl e, q _ _ _ a (.bl _)⟩
theorem ed_if (h0 : EtD K t Γ b) (h1 : b = true → EvD K ta Γ d) (h2 : b = false → EvD K tb Γ d) : EvD K (tIf t ta tb) Γ d := fun h H0 σ H st Q q => h0 h H0 σ H st _ fun H1 H' a => by
  cases b with
  | true =>
    show ta σ H' Q
    exact h1 rfl h H1 σ H' (st.adv a) Q fun v H2 H'' a2 => q _ _ _ (a.trans a2)
  | false =>
    show tb σ H' Q
    exact h2 rfl h H1 σ H' (st.adv a) Q fun v H2 H'' a2 => q _ _ _ (a.trans a2)
/-! arguments, displays -/
theorem ea_nil : EaD K tNil Γ [] := fun _ _ _ _ x Q q => q [] _ _ (Adv.refl x.i) .nil
theorem ea_cons {tr : TA} (h1 : EvD K te Γ d) (h2 : EaD K tr Γ ds) : EaD K (tCons te tr) Γ (d :: ds) := fun h H0 σ H st Q q => h1 h H0 σ H st _ fun v H1 H' a e =>
  h2 h H1 σ H' (st.adv a) _ fun vs H2 H'' a2 e2 => q _ _ _ (a.trans a2) (.cons (dp_mono a2.b _ _ e) e2)
theorem sz_of {n : Nat} (h : n ≤ 100000) : n ≤ sizeLine := Nat.le_trans h (by decide)
theorem ed_tup {tr : TA} (h1 : EaD K tr Γ ds) (hl : ds.length ≤ 100000) : EvD K (tTup tr) Γ (.tuple ds) := fun h H0 σ H st Q q => h1 h H0 σ H st _ fun vs H1 H' a e =>
  ⟨sz_of (by rw [dps_len e]; exact hl), fun p hp => q _ _ _ (adv_tup a hp e).1 (adv_tup a hp e).2⟩
theorem en_lst {tr : TA} (h1 : EaD K tr Γ ds) (hl : ds.length ≤ 100000) : EvN K (tLst tr) Γ ds := fun h H0 σ H st Q q => h1 h H0 σ H st _ fun vs H1 H' a e =>
  ⟨sz_of (by rw [dps_len e]; exact hl), fun p hp => q p vs _ _ a hp e⟩
theorem ed_call {R : List PyData → PyData → Prop} {E : XK} {tr : TA} (h1 : EaD K tr Γ ds) (hr : R ds d) : EvD K (tCall (PureF K R) [] E tr) Γ d := fun h H0 σ H st Q q => h1 h H0 σ H st _ fun vs H1 H' a e => by
  show PureF K R (vs ++ []) H' Q E
  rw [List.append_nil]
  exact ⟨H1, ds, d, a.i, e, hr, fun v H2 H'' a2 e2 => q _ _ _ (a.trans a2) e2⟩
theorem en_call {R : List PyData → List PyData → Prop} {E : XK} {tr : TA} (h1 : EaD K tr Γ ds) (hr : R ds es) : EvN K (tCall (NewF K R) [] E tr) Γ es := fun h H0 σ H st Q q => h1 h H0 σ H st _ fun vs H1 H' a e => by
  show NewF K R (vs ++ []) H' Q E
  rw [List.append_nil]
  exact ⟨H1, ds, es, a.i, e, hr, fun p ws H2 H'' a2 n e2 => q _ _ _ _ (a.trans a2) n e2⟩
theorem ed_cb {rc : List V → Hp → VK → Prop} {tr : TA} (h1 : EaD K tr Γ ds) (hr : RcD K rc ds d) : EvD K (tCB rc tr) Γ d := fun h H0 σ H st Q q => h1 h H0 σ H st _ fun vs H1 H' a e =>
  hr H1 H' vs a.i e Q fun v H2 H'' a2 e2 => q _ _ _ (a.trans a2) e2
theorem en_cb {rc : List V → Hp → VK → Prop} {tr : TA} (h1 : EaD K tr Γ ds) (hr : RcN K rc ds es) : EvN K (tCB rc tr) Γ es := fun h H0 σ H st Q q => h1 h H0 σ H st _ fun vs H1 H' a e =>
  hr H1 H' vs a.i e Q fun p ws H2 H'' a2 n e2 => q _ _ _ _ (a.trans a2) n e2
theorem ed_cb1 {rc : List V → Hp → VK → Prop} (h1 : EvD K te Γ d1) (hr : RcD K rc [d1] d) : EvD K (tCB rc (tCons te tNil)) Γ d := ed_cb (ea_cons h1 ea_nil) hr
theorem eo_none : EoD K tNoPart Γ none := fun _ _ _ _ x Q q => q _ _ (Adv.refl x.i)
theorem eo_some {i : Int} (h1 : EvD K te Γ (.int i)) : EoD K (tPart te) Γ (some i) := fun h H0 σ H st Q q => h1 h H0 σ H st _ fun v H1 H' a e => ⟨i, dp_int e, q _ _ a⟩
end

/-! ### built-ins by values -/
section
variable {K : PySem.W.Frag} {d : PyData} {ds es : List PyData}
theorem dps_one {H : Hp} {vs : List V} (h : DpAll K H vs [d]) : ∃ v, vs = [v] ∧ Dp K H v d := by
  cases h with
  | cons r t => cases t; exact ⟨_, rfl, r⟩
theorem dps_two {H : Hp} {d' : PyData} {vs : List V} (h : DpAll K H vs [d, d']) : ∃ v w, vs = [v, w] ∧ Dp K H v d ∧ Dp K H w d' := by
  cases h with
  | cons r t =>
    obtain ⟨w, rfl, q⟩ := dps_one t
    exact ⟨_, w, rfl, r, q⟩
def rLenQ (K : PySem.W.Frag) : List V → Hp → VK → Prop := fun xs H Q => ∃ p ys, xs = [.ref p] ∧ (SqL K H p ys ∨ SqT K H p ys) ∧ Q (.int ys.length) H
theorem rc_lenT : RcD K (rLenQ K) [.tuple ds] (.int ds.length) := fun H0 H vs s h Q q => by
  obtain ⟨v, rfl, e⟩ := dps_one h
  obtain ⟨a, xs, rfl, hs, ha⟩ := dp_tup e
  refine ⟨a, xs, rfl, .inr (same_t s hs), ?_⟩
  rw [dps_len ha]
  exact q _ _ _ (Adv.refl s) (.int _)
theorem rc_lenL : RcD K (rLenQ K) [.list ds] (.int ds.length) := fun H0 H vs s h Q q => by
  obtain ⟨v, rfl, e⟩ := dps_one h
  obtain ⟨a, xs, rfl, hs, ha⟩ := dp_lst e
  refine ⟨a, xs, rfl, .inl (s.seq hs), ?_⟩
  rw [dps_len ha]
  exact q _ _ _ (Adv.refl s) (.int _)
def rListQ (K : PySem.W.Frag) : List V → Hp → VK → Prop := fun xs H Q => ∃ p ys, xs = [.ref p] ∧ (SqL K H p ys ∨ SqT K H p ys) ∧ ∀ l, H l = none → Q (.ref l) (upd H l (.lst ys))
theorem rc_listT : RcN K (rListQ K) [.tuple ds] ds := fun H0 H vs s h Q q => by
  obtain ⟨v, rfl, e⟩ := dps_one h
  obtain ⟨a, xs, rfl, hs, ha⟩ := dp_tup e
  exact ⟨a, xs, rfl, .inr (same_t s hs), fun l hl => q l xs H0 H (Adv.refl s) hl ha⟩
def rTupQ (K : PySem.W.Frag) : List V → Hp → VK → Prop := fun xs H Q => ∃ p ys, xs = [.ref p] ∧ ((SqL K H p ys ∧ ∀ l, H l = none → Q (.ref l) (upd H l (.tup ys))) ∨ (SqT K H p ys ∧ Q (.ref p) H))
theorem rc_tupL : RcD K (rTupQ K) [.list ds] (.tuple ds) := fun H0 H vs s h Q q => by
  obtain ⟨v, rfl, e⟩ := dps_one h
  obtain ⟨a, xs, rfl, hs, ha⟩ := dp_lst e
  exact ⟨a, xs, rfl, .inl ⟨s.seq hs, fun l hl => q _ _ _ (adv_tup (K := K) (Adv.refl s) hl ha).1 (adv_tup (K := K) (Adv.refl s) hl ha).2⟩⟩
theorem rc_max2 {i j : Int} : RcD K (fun xs H Q => ∃ i j, xs = [.int i, .int j] ∧ Q (.int (if j > i then j else i)) H) [.int i, .int j] (.int (if j > i then j else i)) := fun H0 H vs s h Q q => by
  obtain ⟨v, w, rfl, e1, e2⟩ := dps_two h
  rw [dp_int e1, dp_int e2]
  exact ⟨i, j, rfl, q _ _ _ (Adv.refl s) (.int _)⟩
theorem rc_min2 {i j : Int} : RcD K (fun xs H Q => ∃ i j, xs = [.int i, .int j] ∧ Q (.int (if j < i then j else i)) H) [.int i, .int j] (.int (if j < i then j else i)) := fun H0 H vs s h Q q => by
  obtain ⟨v, w, rfl, e1, e2⟩ := dps_two h
  rw [dp_int e1, dp_int e2]
  exact ⟨i, j, rfl, q _ _ _ (Adv.refl s) (.int _)⟩
def rIntQ : List V → Hp → VK → Prop := fun xs H Q => (∃ i, xs = [.int i] ∧ Q (.int i) H) ∨ ∃ k, xs = [.bl k] ∧ Q (.int (if k then 1 else 0)) H
theorem rc_int {i : Int} : RcD K rIntQ [.int i] (.int i) := fun H0 H vs s h Q q => by
  obtain ⟨v, rfl, e⟩ := dps_one h
  rw [dp_int e]
  exact .inl ⟨i, rfl, q _ _ _ (Adv.refl s) (.int _)⟩
theorem rc_intB {b : Bool} : RcD K rIntQ [.bool b] (.int (if b then 1 else 0)) := fun H0 H vs s h Q q => by
  obtain ⟨v, rfl, e⟩ := dps_one h
  rw [dp_bl e]
  exact .inr ⟨b, rfl, q _ _ _ (Adv.refl s) (.int _)⟩
theorem rc_all {bs : List Bool} : RcD K (rAll K) [.list (bs.map PyData.bool)] (.bool (bs.all id)) := fun H0 H vs s h Q q => by
  obtain ⟨v, rfl, e⟩ := dps_one h
  obtain ⟨a, xs, rfl, hs, ha⟩ := dp_lst e
  rw [dps_blsV ha] at hs
  exact ⟨a, bs, rfl, s.seq hs, q _ _ _ (Adv.refl s) (.bl _)⟩
theorem rc_any {bs : List Bool} : RcD K (rAny K) [.list (bs.map PyData.bool)] (.bool (bs.any id)) := fun H0 H vs s h Q q => by
  obtain ⟨v, rfl, e⟩ := dps_one h
  obtain ⟨a, xs, rfl, hs, ha⟩ := dp_lst e
  rw [dps_blsV ha] at hs
  exact ⟨a, bs, rfl, s.seq hs, q _ _ _ (Adv.refl s) (.bl _)⟩
end

/-! ### statements -/
def Go (K : PySem.W.Frag) (c : Cxt) (Γ : List Sl) (N : L2.St → Hp → Prop) : Prop := ∀ H0 σ H, At c H0 H → Sat K c.h H0 σ H Γ → N σ H
def RetOk (K : PySem.W.Frag) (c : Cxt) (rt : VK) (r : PyData) : Prop := ∀ v H0 H, At c H0 H → Dp K H0 v r → rt v H
def RetNew (K : PySem.W.Frag) (c : Cxt) (rt : VK) (es : List PyData) : Prop := ∀ p vs H0 H1, At c H0 H1 → c.h p = none → H0 p = none → H1 p = some (.lst vs) → DpAll K H0 vs es → rt (.ref p) H1
/-- targets -/
def Tg (K : PySem.W.Frag) (g : TG) (d : PyData) (Γ Γ' : List Sl) : Prop := ∀ h H0 σ H v, Sat K h H0 σ H Γ → Dp K H0 v d → ∀ Q : L2.St → Hp → Prop, (∀ σ', Sat K h H0 σ' H Γ' → Q σ' H) → g v σ H Q
def Tgs (K : PySem.W.Frag) (g : TGs) (ds : List PyData) (Γ Γ' : List Sl) : Prop := ∀ h H0 σ H vs, Sat K h H0 σ H Γ → DpAll K H0 vs ds → ∀ Q : L2.St → Hp → Prop, (∀ σ', Sat K h H0 σ' H Γ' → Q σ' H) → g vs σ H Q
section
variable {K : PySem.W.Frag} {c : Cxt} {Γ Γ' : List Sl} {te ti : TE} {t : TT} {d : PyData} {ds es : List PyData} {b : Bool} {D : Ends} {tu tw : TS} {g : TG} {N : L2.St → Hp → Prop} {i j : Nat}
theorem tg_name : Tg K (gName i) d Γ (Γ.set i (.d d)) := fun h H0 σ H v x e Q q => q _ (x.setD e)
theorem tgs_nil : Tgs K gNil [] Γ Γ := fun h H0 σ H vs x e Q q => by
  cases e
  exact ⟨rfl, q _ x⟩
theorem tgs_cons {gs : TGs} {Γ'' : List Sl} (h1 : Tg K g d Γ Γ') (h2 : Tgs K gs ds Γ' Γ'') : Tgs K (gCons g gs) (d :: ds) Γ Γ'' := fun h H0 σ H vs x e Q q => by
  cases e with
  | cons e1 e2 => exact ⟨_, _, rfl, h1 h H0 σ H _ x e1 _ fun σ' x' => h2 h H0 σ' H _ x' e2 _ q⟩
theorem tg_tup {gs : TGs} {n : Nat} (h1 : Tgs K gs ds Γ Γ') (hn : ds.length = n) : Tg K (gTup K n gs) (.tuple ds) Γ Γ' := fun h H0 σ H v x e Q q => by
  obtain ⟨a, xs, rfl, hs, ha⟩ := dp_tup e
  exact ⟨a, xs, rfl, same_t x.i hs, (dps_len ha).trans hn, h1 h H0 σ H xs x ha Q q⟩
theorem tg_lst {gs : TGs} {n : Nat} (h1 : Tgs K gs ds Γ Γ') (hn : ds.length = n) : Tg K (gUnl K n gs) (.list ds) Γ Γ' := fun h H0 σ H v x e Q q => by
  obtain ⟨a, xs, rfl, hs, ha⟩ := dp_lst e
  exact ⟨a, xs, rfl, x.i.seq hs, (dps_len ha).trans hn, h1 h H0 σ H xs x ha Q q⟩
theorem Go.mono {N' : L2.St → Hp → Prop} (h : Go K c Γ N) (k : ∀ σ H, N σ H → N' σ H) : Go K c Γ N' := fun H0 σ H a x => k _ _ (h H0 σ H a x)
theorem go_seq (h : Go K c Γ (tu { D with nx := tw D })) : Go K c Γ (tSeq tu tw D) := h
theorem go_asg (h : EvD K te Γ d) (k : Go K c (Γ.set i (.d d)) D.nx) : Go K c Γ (tAsg te (gName i) D) := fun H0 σ H a x =>
  h c.h H0 σ H x _ fun v H1 H' a1 e => k H1 _ H' (a.adv a1) ((x.adv a1).setD e)
theorem cnone {H : Hp} {p : Addr} (s : Same c.h H) (n : H p = none) : c.h p = none := s.free n
theorem go_asgN (h : EvN K te Γ es) (k : Go K c (Γ.set i (.own es)) D.nx) : Go K c Γ (tAsg te (gName i) D) := fun H0 σ H a x =>
  h c.h H0 σ H x _ fun p vs H1 H' a1 n e =>
    have nh : c.h p = none := (a.adv a1).s.free n
    k H1 _ _ ((a.adv a1).write nh (a1.i.free n)) ((x.adv a1).setOwn n nh e)
theorem go_asgT (h : EvD K te Γ d) (hg : Tg K g d Γ Γ') (k : Go K c Γ' D.nx) : Go K c Γ (tAsg te g D) := fun H0 σ H a x =>
  h c.h H0 σ H x _ fun v H1 H' a1 e => hg c.h H1 σ H' v (x.adv a1) e _ fun σ' x' => k H1 σ' H' (a.adv a1) x'
theorem go_par {ta : TA} {d1 d2 : PyData} (h : EaD K ta Γ [d1, d2]) (k : Go K c ((Γ.set i (.d d1)).set j (.d d2)) D.nx) : Go K c Γ (tPar i j ta D) := fun H0 σ H a x =>
  h c.h H0 σ H x _ fun vs H1 H' a1 e => by
    obtain ⟨v, w, rfl, e1, e2⟩ := dps_two e
    exact ⟨v, w, rfl, k H1 _ H' (a.adv a1) (((x.adv a1).setD e1).setD e2)⟩
theorem go_ret (h : EvD K te Γ d) (k : RetOk K c D.rt d) : Go K c Γ (tRet te D) := fun H0 σ H a x =>
  h c.h H0 σ H x _ fun v H1 H' a1 e => k v H1 H' (a.adv a1) e
theorem go_retN (h : EvN K te Γ es) (k : RetNew K c D.rt es) : Go K c Γ (tRet te D) := fun H0 σ H a x =>
  h c.h H0 σ H x _ fun p vs H1 H' a1 n e =>
    have nh : c.h p = none := (a.adv a1).s.free n
    k p vs H1 _ ((a.adv a1).write nh (a1.i.free n)) nh (a1.i.free n) upd_same e
/-- a list of one's own is handed back -/
theorem go_retOwn {pin : Option Addr} (e : Γ[i]? = some (.own es pin)) (k : RetNew K c D.rt es) : Go K c Γ (tRet (tVar i) D) := fun H0 σ H a x => by
  obtain ⟨p, vs, e1, n1, n0, l, q⟩ := x.getOwn e
  exact ⟨_, e1, k p vs H0 H a n1 n0 l q⟩
theorem go_drop (h : EvD K te Γ d) (k : Go K c Γ D.nx) : Go K c Γ (tDrop te D) := fun H0 σ H a x =>
  h c.h H0 σ H x _ fun v H1 H' a1 e => k H1 _ H' (a.adv a1) (x.adv a1)
theorem go_if (h : EtD K t Γ b) (h1 : b = true → Go K c Γ (tu D)) (h2 : b = false → Go K c Γ (tw D)) : Go K c Γ (tIfS t tu tw D) := fun H0 σ H a x =>
  h c.h H0 σ H x _ fun H1 H' a1 => by
    cases b with
    | true =>
      show tu D σ H'
      exact h1 rfl H1 σ H' (a.adv a1) (x.adv a1)
    | false =>
      show tw D σ H'
      exact h2 rfl H1 σ H' (a.adv a1) (x.adv a1)
theorem go_next (k : Go K c Γ D.nx) : Go K c Γ (tNext D) := k
theorem go_freeze {pin : Option Addr} (e : Γ[i]? = some (.own es pin)) (k : Go K c (Γ.set i (.d (.list es))) N) : Go K c Γ N := fun H0 σ H a x => by
  obtain ⟨H0', x', s, n⟩ := x.freeze e
  exact k H0' σ H (a.more s x'.i n) x'
theorem go_forget (i : Nat) (k : Go K c (Γ.set i .no) N) : Go K c Γ N := fun H0 σ H a x => k H0 σ H a (x.drop i)
/-- xs.append(e), xs a list of one's own -/
theorem go_app {xs : List PyData} {pin : Option Addr} (e : Γ[i]? = some (.own xs pin)) (h : EvD K te Γ d) (hl : xs.length < 100000) (k : Go K c (Γ.set i (.own (xs ++ [d]) pin)) D.nx) : Go K c Γ (tDrop (tBM K "list" rAppend (tVar i) (tCons te tNil)) D) := fun H0 σ H a x => by
  obtain ⟨p, vs, e1, n1, n0, l, q⟩ := x.getOwn e
  refine ⟨_, e1, .inl ⟨rfl, vs, SqL.of l⟩, ?_⟩
  refine h c.h H0 σ H x _ fun v H1 H' a1 e2 => ?_
  have l' := a1.s _ _ l
  refine ⟨p, vs, v, rfl, rfl, l', Nat.lt_of_lt_of_le (by rw [dps_len q]; exact hl) (show 100000 ≤ sizeLine by decide), ?_⟩
  exact k H1 σ _ ((a.adv a1).write n1 (a1.n p n0 (by rw [l]; simp))) ((x.adv a1).write e e1 (dps_snoc (dps_mono a1.b _ _ q) e2))
/-- xs[i] = e -/
theorem ixN_nat {n j : Nat} (hj : j < n) : ixN n (j : Int) = some j := by
  unfold ixN
  rw [if_pos (by omega), if_pos (by omega)]
  simp
theorem go_setix {xs : List PyData} {pin : Option Addr} {z : Int} (e : Γ[i]? = some (.own xs pin)) (h : EvD K te Γ d) (hi : EvD K ti Γ (.int z)) (hz : 0 ≤ z) (hj : z.toNat < xs.length) (k : Go K c (Γ.set i (.own (xs.set z.toNat d) pin)) D.nx) :
    Go K c Γ (tAsg te (gSub (tVar i) ti rSetL) D) := fun H0 σ H a x => by
  obtain ⟨p, vs, e1, n1, n0, l, q⟩ := x.getOwn e
  refine h c.h H0 σ H x _ fun v H1 H' a1 e2 => ?_
  refine ⟨_, e1, ?_⟩
  refine hi c.h H1 σ H' (x.adv a1) _ fun w H2 H'' a2 e3 => ?_
  have l' := a2.s _ _ (a1.s _ _ l)
  have n2 : H2 p = none := a2.n p (a1.n p n0 (by rw [l]; simp)) (by rw [a1.s _ _ l]; simp)
  have ez : ((z.toNat : Nat) : Int) = z := Int.toNat_of_nonneg hz
  refine ⟨p, vs, z, z.toNat, rfl, dp_int e3, l', ?_, ?_⟩
  · have := ixN_nat (n := vs.length) (j := z.toNat) (by rw [dps_len q]; exact hj)
    rw [ez] at this
    exact this
  · exact k H2 σ _ (((a.adv a1).adv a2).write n1 n2) (((x.adv a1).adv a2).write e e1 (dps_set (dp_mono a2.b _ _ e2) _ (dps_mono a2.b _ _ (dps_mono a1.b _ _ q))))
/-- reading a list of one's own -/
theorem ed_ixOwn {xs : List PyData} {pin : Option Addr} {z : Int} (e : Γ[i]? = some (.own xs pin)) (h : EvD K te Γ (.int z)) (he : atI xs z = some d) : EvD K (tOp (rIxL K) (tVar i) te) Γ d := fun hh H0 σ H x Q k => by
  obtain ⟨p, vs, e1, n1, n0, l, q⟩ := x.getOwn e
  refine ⟨_, e1, ?_⟩
  refine h hh H0 σ H x _ fun v H1 H' a1 e2 => ?_
  obtain ⟨w, h1, h2⟩ := dps_at (dps_mono a1.b _ _ q) he
  exact ⟨p, vs, z, w, rfl, dp_int e2, SqL.of (a1.s _ _ l), h1, k w H1 H' a1 h2⟩
theorem ed_lenOwn {xs : List PyData} {pin : Option Addr} (e : Γ[i]? = some (.own xs pin)) : EvD K (tCB (rLenQ K) (tCons (tVar i) tNil)) Γ (.int xs.length) := fun hh H0 σ H x Q k => by
  obtain ⟨p, vs, e1, n1, n0, l, q⟩ := x.getOwn e
  refine ⟨_, e1, p, vs, rfl, .inl (SqL.of l), ?_⟩
  rw [dps_len q]
  exact k _ _ _ (Adv.refl x.i) (.int _)
/-! loops -/
structure Nx (K : PySem.W.Frag) (c : Cxt) (Inv : Nat → List Sl → Prop) (i : Nat) (σ : L2.St) (H : Hp) : Prop where
  ex : ∃ Γ' H0, Inv i Γ' ∧ At c H0 H ∧ Sat K c.h H0 σ H Γ'
structure NxW (K : PySem.W.Frag) (c : Cxt) (Inv : Nat → List Sl → Prop) (m : Nat) (σ : L2.St) (H : Hp) : Prop where
  ex : ∃ m', m' < m ∧ Nx K c Inv m' σ H
theorem go_nx {Inv : Nat → List Sl → Prop} (h : Inv i Γ) : Go K c Γ (Nx K c Inv i) := fun H0 _ _ a x => ⟨Γ, H0, h, a, x⟩
structure WalkD (K : PySem.W.Frag) (J : It) (Hf : Hp) (ds : List PyData) : Prop where
  go : ∀ (i : Nat) H, i < ds.length → Same Hf H → J.go i H
  stop : ∀ H, Same Hf H → J.stop ds.length H
  yld : ∀ (i : Nat) H x H', i < ds.length → Same Hf H → J.yld i H x H' → ∃ d, ds[i]? = some d ∧ ∀ H0, Same Hf H0 → Same H0 H → ∃ H0', Adv H0 H H0' H' ∧ Dp K H0' x d
def ItD (K : PySem.W.Frag) (wi : TI) (Γ : List Sl) (ds : List PyData) : Prop :=
  ∀ h H0 σ H, Sat K h H0 σ H Γ → ∀ R : It → Hp → Prop, (∀ J H0' H', Adv H0 H H0' H' → WalkD K J H0' ds → R J H') → wi σ H R
theorem go_for {wi : TI} {Inv : Nat → List Sl → Prop} (hi : ItD K wi Γ ds) (h0 : Inv 0 Γ)
    (hs : ∀ b, Same c.b b → ∀ (i : Nat) d Γi, ds[i]? = some d → Inv i Γi → ∃ Γ2, Tg K g d Γi Γ2 ∧ Go K (c.at' b) Γ2 (tu { D with nx := Nx K (c.at' b) Inv (i + 1), ct := Nx K (c.at' b) Inv (i + 1), bk := D.nx }))
    (hd : ∀ Γn, Inv ds.length Γn → Go K c Γn D.nx) : Go K c Γ (tFor wi g tu D) := fun H0 σ H a x =>
  hi c.h H0 σ H x _ fun J Hf H1 a1 w => by
    have a2 := a.adv a1
    refine ⟨fun i m σ H => m = ds.length - i ∧ i ≤ ds.length ∧ Nx K (c.at' Hf) Inv i σ H, ⟨_, rfl, Nat.zero_le _, ⟨Γ, Hf, h0, a2.base, x.adv a1⟩⟩, ?_⟩
    rintro i m σ H ⟨rfl, hi, ⟨Γi, H2, iv, at2, x2⟩⟩
    by_cases hlt : i < ds.length
    · refine .inr ⟨w.go i H hlt (at2.b.trans at2.i), Nx K (c.at' Hf) Inv (i + 1), fun σ' H' p => ⟨_, by omega, rfl, hlt, p⟩, fun v H' y => ?_⟩
      obtain ⟨d, e, k⟩ := w.yld i H v H' hlt (at2.b.trans at2.i) y
      obtain ⟨H3, a3, e3⟩ := k H2 at2.b at2.i
      obtain ⟨Γ2, tg, bd⟩ := hs Hf a2.b i d Γi e iv
      exact tg c.h H3 σ H' v (x2.adv a3) e3 _ fun σ' x' => bd H3 σ' H' (at2.adv a3) x'
    · have e : i = ds.length := by omega
      subst e
      exact .inl ⟨w.stop H (at2.b.trans at2.i), hd Γi iv H2 σ H (at2.low a2.b) x2⟩
theorem go_while {Inv : Nat → List Sl → Prop} (m : Nat) (h0 : Inv m Γ)
    (hs : ∀ m Γ, Inv m Γ → ∃ b, EtD K t Γ b ∧ (b = true → Go K c Γ (tu { D with nx := NxW K c Inv m, ct := NxW K c Inv m, bk := D.nx })) ∧ (b = false → Go K c Γ D.nx)) :
    Go K c Γ (tWhile t tu D) := fun H0 σ H a x => by
  refine ⟨fun m σ H => Nx K c Inv m σ H, ⟨m, ⟨Γ, H0, h0, a, x⟩⟩, ?_⟩
  rintro m σ H ⟨Γm, H2, iv, at2, x2⟩
  obtain ⟨b, hb, h1, h2⟩ := hs m Γm iv
  refine hb c.h H2 σ H x2 _ fun H3 H' a3 => ?_
  cases b with
  | true => exact ⟨NxW K c Inv m, fun _ _ z => z.ex, h1 rfl H3 σ H' (at2.adv a3) (x2.adv a3)⟩
  | false => exact h2 rfl H3 σ H' (at2.adv a3) (x2.adv a3)
theorem go_nxW {Inv : Nat → List Sl → Prop} {m m' : Nat} (hm : m' < m) (h : Inv m' Γ) : Go K c Γ (NxW K c Inv m) := fun H0 _ _ a x => ⟨m', hm, ⟨Γ, H0, h, a, x⟩⟩
end
/-! ### what is walked -/
section
variable {K : PySem.W.Frag} {Γ : List Sl} {te : TE} {ta : TA} {ds es : List PyData}
theorem it_list (h : EvD K te Γ (.list ds)) : ItD K (iList K te) Γ ds := fun hh H0 σ H x R k => h hh H0 σ H x _ fun v H1 H' a e => by
  obtain ⟨p, xs, rfl, hs, ha⟩ := dp_lst e
  have hl := dps_len ha
  refine ⟨p, rfl, ⟨xs, a.i.seq hs⟩, k _ H1 H' a ⟨fun i H hi s => ?_, fun H s => ⟨xs, s.seq hs, by omega⟩, fun i H v H' hi s y => ?_⟩⟩
  · exact ⟨xs, xs[i]'(by omega), s.seq hs, by simp [show i < xs.length by omega]⟩
  · obtain ⟨rfl, y⟩ := y
    obtain ⟨d, e1, e2⟩ := dps_getV ha (y xs (s.seq hs))
    exact ⟨d, e1, fun H0 s1 s2 => ⟨H0, Adv.refl s2, dp_mono s1 _ _ e2⟩⟩
theorem it_tup (h : EvD K te Γ (.tuple ds)) : ItD K (iTup K te) Γ ds := fun hh H0 σ H x R k => h hh H0 σ H x _ fun v H1 H' a e => by
  obtain ⟨p, xs, rfl, hs, ha⟩ := dp_tup e
  have hl := dps_len ha
  refine ⟨p, rfl, ⟨xs, same_t a.i hs⟩, k _ H1 H' a ⟨fun i H hi s => ?_, fun H s => ⟨xs, same_t s hs, by omega⟩, fun i H v H' hi s y => ?_⟩⟩
  · exact ⟨xs, xs[i]'(by omega), same_t s hs, by simp [show i < xs.length by omega]⟩
  · obtain ⟨rfl, y⟩ := y
    obtain ⟨d, e1, e2⟩ := dps_getV ha (y xs (same_t s hs))
    exact ⟨d, e1, fun H0 s1 s2 => ⟨H0, Adv.refl s2, dp_mono s1 _ _ e2⟩⟩
def rangeD (lo : Int) (n : Nat) : List PyData := (List.range n).map fun i => .int (lo + (i : Nat))
theorem rangeD_len {lo : Int} {n : Nat} : (rangeD lo n).length = n := by simp [rangeD]
theorem rangeD_get {lo : Int} {n i : Nat} (h : i < n) : (rangeD lo n)[i]? = some (.int (lo + (i : Nat))) := by simp [rangeD, h]
theorem walkd_range {Hf : Hp} {lo : Int} {n : Nat} : WalkD K (Itr lo n) Hf (rangeD lo n) := by
  refine ⟨fun i H hi _ => ?_, fun H _ => ?_, fun i H v H' hi s y => ?_⟩
  · rw [rangeD_len] at hi; exact hi
  · rw [rangeD_len]; exact Nat.le_refl _
  · rw [rangeD_len] at hi
    obtain ⟨rfl, rfl⟩ := y
    exact ⟨_, rangeD_get hi, fun H0 s1 s2 => ⟨H0, Adv.refl s2, .int _⟩⟩
theorem it_range1 {n : Int} (h : EaD K ta Γ [.int n]) (hn : n ≤ 100000) (hn0 : -100000 ≤ n) : ItD K (iRng1 ta) Γ (rangeD 0 n.toNat) := fun hh H0 σ H x R k => h hh H0 σ H x _ fun vs H1 H' a e => by
  obtain ⟨v, rfl, e1⟩ := dps_one e
  rw [dp_int e1]
  exact ⟨n, rfl, by omega, by omega, k _ H1 H' a walkd_range⟩
theorem it_range2 {lo n : Int} (h : EaD K ta Γ [.int lo, .int n]) (hn : n ≤ 100000) (hn0 : -100000 ≤ n) (hl : lo ≤ 100000) (hl0 : -100000 ≤ lo) : ItD K (iRng2 ta) Γ (rangeD lo (n - lo).toNat) := fun hh H0 σ H x R k => h hh H0 σ H x _ fun vs H1 H' a e => by
  obtain ⟨v, w, rfl, e1, e2⟩ := dps_two e
  rw [dp_int e1, dp_int e2]
  exact ⟨lo, n, rfl, ⟨by omega, by omega, by omega, by omega⟩, k _ H1 H' a walkd_range⟩
def pairsD : List PyData → List PyData → List PyData
  | x :: xs, y :: ys => .tuple [x, y] :: pairsD xs ys
  | _, _ => []
theorem pairsD_len : ∀ (xs ys : List PyData), (pairsD xs ys).length = min xs.length ys.length
  | [], _ => by simp [pairsD]
  | _ :: _, [] => by simp [pairsD]
  | x :: xs, y :: ys => by
    show (pairsD xs ys).length + 1 = min (xs.length + 1) (ys.length + 1)
    rw [pairsD_len xs ys]
    omega
theorem pairsD_get : ∀ (xs ys : List PyData) (i : Nat) (x y : PyData), xs[i]? = some x → ys[i]? = some y → (pairsD xs ys)[i]? = some (.tuple [x, y])
  | [], _, i, x, y, h, _ => by simp at h
  | _ :: _, [], i, x, y, _, h => by simp at h
  | a :: xs, b :: ys, 0, x, y, h1, h2 => by
    have e1 := Option.some.inj h1
    have e2 := Option.some.inj h2
    subst e1; subst e2
    rfl
  | a :: xs, b :: ys, i + 1, x, y, h1, h2 => pairsD_get xs ys i x y (by simpa using h1) (by simpa using h2)
theorem yld_pair {Hf H H' H0 : Hp} {x y : V} {d e : PyData} {T : Addr} (h1 : Dp K Hf x d) (h2 : Dp K Hf y e) (n : H T = none) (eH : H' = upd H T (.tup [x, y])) (s1 : Same Hf H0) (s2 : Same H0 H) : ∃ H0', Adv H0 H H0' H' ∧ Dp K H0' (.ref T) (.tuple [d, e]) := by
  subst eH
  have z := adv_tup (K := K) (ds := [d, e]) (vs := [x, y]) (Adv.refl s2) n (.cons (dp_mono s1 _ _ h1) (.cons (dp_mono s1 _ _ h2) .nil))
  exact ⟨_, z.1, z.2⟩
theorem it_zipT (h : EaD K ta Γ [.tuple ds, .tuple es]) : ItD K (RZ.iZipA K ta) Γ (pairsD ds es) := fun hh H0 σ H x R k => h hh H0 σ H x _ fun vs H1 H' a e => by
  obtain ⟨v, w, rfl, e1, e2⟩ := dps_two e
  obtain ⟨p, xs, rfl, hs, ha⟩ := dp_tup e1
  obtain ⟨q, ys, rfl, hs', ha'⟩ := dp_tup e2
  have hl := dps_len ha
  have hl' := dps_len ha'
  refine ⟨p, q, xs, ys, rfl, .inr ⟨same_t a.i hs, same_t a.i hs', k _ H1 H' a ⟨fun i H hi s => ?_, fun H s => ?_, fun i H v H' hi s y => ?_⟩⟩⟩
  · rw [pairsD_len] at hi
    exact ⟨xs, ys, xs[i]'(by omega), ys[i]'(by omega), same_t s hs, same_t s hs', by simp [show i < xs.length by omega], by simp [show i < ys.length by omega]⟩
  · refine ⟨xs, ys, same_t s hs, same_t s hs', ?_⟩
    rw [pairsD_len]; omega
  · obtain ⟨T, v1, v2, f1, f2, f3, f4, f5⟩ := y
    obtain ⟨d1, g1, g2⟩ := dps_getV ha (f4 xs (same_t s hs))
    obtain ⟨d2, g3, g4⟩ := dps_getV ha' (f5 ys (same_t s hs'))
    subst f1
    exact ⟨_, pairsD_get ds es i d1 d2 g1 g3, fun H0 s1 s2 => yld_pair g2 g4 f2 f3 s1 s2⟩
end
end Evr
set_option Elab.async false
set_option linter.all false
set_option maxRecDepth 100000
set_option maxHeartbeats 4000000
/-! enumerate of a tuple, walked. -/
namespace Evr
open PySem PySem.Spec PyProof.Rows L2

theorem enumMade {v : Value} {o : Obj} {G : Heap → Prop} (B : Begins v o G) :
    Meets (Builtin.«enumerate.__new__» ⟨[.type "enumerate", v], []⟩) (fun _ R s => G s.heap ∧
      R (.ok (.ret (.ref (s.heap.push o).objs.size))) { s with heap := (s.heap.push o).push { cls := .type "enumerate", data := .fields #[.none, .bool false, .ref s.heap.objs.size, rawInt 0, .none, .none] } }) :=
  .of_wp fun prog w A R s hw => by
    obtain ⟨hp, g, dr, tk, os⟩ := s
    obtain ⟨hG, hw⟩ := hw
    have subE := sub_enumerate
    have step : ∀ {A' : Around} {E : Value → Shared → Prop} {Q : Value → Shared → Prop}, Q (.ref hp.objs.size) ⟨hp.push o, g, dr, tk, os⟩ → wpAny (model prog w) A' (pyIter v) Q E ⟨hp, g, dr, tk, os⟩ :=
      fun q => B.iter prog w _ _ ⟨hp, g, dr, tk, os⟩ _ hG q
    wp_walk using step
    refine wpAny_stack_any fun st => wpAny_pure ?_
    split
    · rename_i cl _ _ _ _ _
      cases (cl == Value.type "enumerate") <;>
      · wp_walk using step
        exact ⟨_, rfl, hw⟩
    · wp_walk using step
      exact ⟨_, rfl, hw⟩

theorem enumCalled {prog : Program} {w : World} {A : Around} {E : Value → Shared → Prop} {s : Shared} {v : Value} {o : Obj} {G : Heap → Prop} {Q : Value → Shared → Prop} (B : Begins v o G) (hG : G s.heap)
    (k : ∀ h', IsEnum h' (s.heap.objs.size + 1) s.heap.objs.size 0 .none → h'.get? s.heap.objs.size = some o → (∀ b u, s.heap.get? b = some u → h'.get? b = some u) → Q (.ref (s.heap.objs.size + 1)) { s with heap := h' }) :
    wpAny (model prog w) A (call (.type "enumerate") [v]) Q E s := by
  refine callType_new F.called_enumerate (by decide) (F.typeCall_enumerate_1 _) (F.newCall_enumerate_1 _) (fun obj => F.args_object_init_2 obj _) F.entry_enumerate_new (enumMade B) ⟨hG, ?_⟩
  have sz : (s.heap.push o).objs.size = s.heap.objs.size + 1 := Heap.size_push ..
  show _ ∧ _
  rw [sz]
  have laid := Heap.get?_push_size (s.heap.push o) (o := { cls := .type "enumerate", data := .fields #[.none, .bool false, .ref s.heap.objs.size, rawInt 0, .none, .none] }) rfl
  rw [sz] at laid
  exact ⟨⟨_, laid, rfl⟩, k _ laid (Heap.get?_push_of_some _ (Heap.get?_push_size _ B.free)) fun b u x => Heap.get?_push_of_some _ (Heap.get?_push_of_some _ x)⟩

/-- (0, x0), (1, x1), .. of the tuple at a -/
def ItEnT (K : PySem.W.Frag) (a : Addr) : It where
  go := fun i H => ∃ (xs : List V) (x : V), SqT K H a xs ∧ xs[i]? = some x
  yld := fun i H v H' => ∃ T x, v = .ref T ∧ H T = none ∧ H' = upd H T (.tup [.int (i : Nat), x]) ∧ ∀ xs, SqT K H a xs → xs[i]? = some x
  stop := fun i H => ∃ xs : List V, SqT K H a xs ∧ xs.length = i
theorem two_mem {b e it : Addr} (h : b ∈ [e, it]) : b = e ∨ b = it := by simpa using h
theorem turnEnT {P : Program} {w : World} {K : PySem.W.Frag} {elts : List Expr} {kk : Nat} {tpos : Pos} (a e it : Addr) (hae : a ≠ e) (hai : a ≠ it) :
    Turn P w K (.Tuple elts kk tpos) (ItEnT K a) [e, it] e (fun i h => (∃ old, IsEnum h e it ((i : Nat) : Int) old) ∧ h.IsTupleIter it a i ∧ e ≠ it) where
  mem := List.mem_cons_self
  obj := fun i h st b hb => by
    obtain ⟨⟨old, he⟩, ⟨o, ho, _, hd⟩, _⟩ := st
    rcases two_mem hb with rfl | rfl
    · exact ⟨_, he, fun v q => nomatch q⟩
    · exact ⟨o, ho, fun v q => by rw [hd] at q; cases q⟩
  keep := fun i h h' st k => by
    obtain ⟨⟨old, he⟩, hi, hne⟩ := st
    exact ⟨⟨old, k e List.mem_cons_self _ he⟩, hi.at fun o q => k it (List.mem_cons_of_mem _ List.mem_cons_self) o q, hne⟩
  item := by
    intro X hP hw hK hc i pins s σ H E I hf st hg
    subst hP hw hK
    obtain ⟨⟨old, he⟩, hit, hne⟩ := st
    obtain ⟨xs, x, hq, hx⟩ := hg
    obtain ⟨its, rv, p, hz⟩ := I.tuple hq
    obtain ⟨u, hu, ru⟩ := rv.get hx
    have hel : e < s.heap.objs.size := Heap.lt_size he
    have hil : it < s.heap.objs.size := by obtain ⟨_, q, _⟩ := hit; exact Heap.lt_size q
    have hin : i < its.toArray.size := by
      have := (List.getElem?_eq_some_iff.mp hu).1
      simpa using this
    have DT := Draws.tuple (prog := X.prog) (w := X.w) (A := X.A.in1) (I.ok.hd hc) it a hai its.toArray
    refine wpAny_pyNext_enum_itemD DT he ⟨hit, p⟩ hin hne (fun hm => ?_) fun y h' tk hy ho st' hT hsz hk => ?_
    · rcases two_mem hm with z | z
      · exact hne z
      · exact hae z.symm
    have ey : y = u := by
      have h1 : its.toArray[i]? = some y := hy
      rw [List.getElem?_toArray, hu] at h1
      exact (Option.some.inj h1).symm
    subst ey
    refine ⟨_, rfl, wpAny_letOwnedTupleGo_enum (s := { s with heap := h', toks := tk + 1 }) ho fun h'' he' sb => ?_⟩
    have hT2 : h''.get? s.heap.objs.size = some { cls := .type "tuple", data := .seq #[.int i tk, y] } := (sb.2 _ (Nat.ne_of_gt hel)).trans hT
    have fresh : ObjOk X.prog X.w (upd H s.heap.objs.size (.tup [.int (i : Nat), x])) h'' s.heap.objs.size (.tup [.int (i : Nat), x]) := by
      refine ⟨by show 2 ≤ sizeLine; decide, [.int i tk, y], .cons ⟨_, rfl⟩ (.cons ru .nil), ?_⟩
      exact ⟨_, hT2, rfl, _, rfl⟩
    have J : Inv X pins σ (upd H s.heap.objs.size (.tup [.int (i : Nat), x])) { s with heap := h'', toks := tk + 1 } := by
      refine I.turnedNew (ch := [e, it]) (fun b ob hb q => ?_) hf (Nat.le_refl _) fresh
      have n1 : b ≠ e := fun z => hb (by rw [z]; exact List.mem_cons_self)
      have n2 : b ≠ it := fun z => hb (by rw [z]; exact List.mem_cons_of_mem _ List.mem_cons_self)
      exact (sb.2 b n1).trans (hk b ob n1 n2 q)
    refine ⟨.ref s.heap.objs.size, _, J, rfl, ⟨_, x, rfl, I.hok.fresh (Nat.le_refl _), rfl, fun ys hy' => by rw [I.tuple_inj hy' hq]; exact hx⟩, ⟨⟨y, ?_⟩, st'.1.at fun o q => (sb.2 it (Ne.symm hne)).trans q, hne⟩, fun b hb => ?_⟩
    · have cast1 : ((i + 1 : Nat) : Int) = (i : Int) + 1 := by omega
      rw [cast1]
      exact he'
    · have hb' : b < s.heap.objs.size := by
        rcases two_mem hb with rfl | rfl
        · exact hel
        · exact hil
      rw [upd_ne (Nat.ne_of_lt hb')]
      exact (hf b hb).1
  done := by
    intro X hP hw hK hc i pins s σ H E I hf st hg
    subst hP hw hK
    obtain ⟨⟨old, he⟩, hit, hne⟩ := st
    obtain ⟨xs, hq, hx⟩ := hg
    obtain ⟨its, rv, p, hz⟩ := I.tuple hq
    obtain ⟨f0, f1, f2, f3, f4, f5⟩ := hf it (List.mem_cons_of_mem _ List.mem_cons_self)
    have DT := Draws.tuple (prog := X.prog) (w := X.w) (A := X.A.in1) (I.ok.hd hc) it a hai its.toArray
    have hn : i = its.toArray.size := by
      rw [List.size_toArray, ← rv.length]
      exact hx.symm
    have hit' : s.heap.IsTupleIter it a its.toArray.size := by
      rw [← hn]
      exact hit
    exact wpAny_pyNext_enum_endD DT he ⟨hit', p⟩ fun h' eb => ⟨rfl, I.turned (t' := s.toks) (fun b o hb q => eb b o hb q) f0 f1 f3 f4 f5⟩
  self := fun A i s Q E st h => by
    obtain ⟨⟨_, he⟩, _⟩ := st
    exact wpAny_pyIter_enum he h
def iEnT (K : PySem.W.Frag) (ta : TA) : TI := fun σ H R => ta σ H fun vs H1 => ∃ a xs, vs = [.ref a] ∧ SqT K H1 a xs ∧ R (ItEnT K a) H1
theorem pi_enT {X : Cx} {e : Expr} {ta : TA} {p pos tpos : Pos} {elts : List Expr} {kk : Nat} (hg : Gl X "enumerate") (hm : X.mg "enumerate" = none) (ha : PA X [e] ta) (hs : starEach [e] X.env = [(false, eval e X.env)] := by rfl) :
    PI X (.Tuple elts kk tpos) (.Call (.Name "enumerate" p) [e] [] pos) (iEnT X.K ta) := by
  refine ⟨fun pins s σ H R I hw => ?_⟩
  refine Call_ (ld_blt I hg hm boot_enumerate (PyProof.Rows.callWith_type1 (thn (ha.run pos pins s σ H _ I hw) fun us s1 ⟨vs, H1, I1, r1, q1⟩ => ?_) hs rfl))
  obtain ⟨a, xs, rfl, hq, q⟩ := q1
  cases r1 with
  | cons r rr =>
    cases rr
    cases r
    obtain ⟨its, rv, p', hz⟩ := I1.tuple hq
    have al : a < s1.heap.objs.size := by
      obtain ⟨o, ho, _⟩ := p'
      exact Heap.lt_size ho
    refine enumCalled (begins_tuple a its.toArray) p' fun h' he hit hk => wpAny_pyIter_enum he ?_
    refine ⟨s1.heap.objs.size + 1, [s1.heap.objs.size + 1, s1.heap.objs.size], _, _, H1, rfl, I1.kept (t' := s1.toks) hk, turnEnT a (s1.heap.objs.size + 1) s1.heap.objs.size (Nat.ne_of_lt (Nat.lt_succ_of_lt al)) (Nat.ne_of_lt al),
      ⟨⟨.none, he⟩, ⟨_, hit, rfl, rfl⟩, Nat.succ_ne_self _⟩, fun b hb => ?_, q⟩
    have hle : s1.heap.objs.size ≤ b := by
      rcases two_mem hb with z | z
      · rw [z]; exact Nat.le_add_right _ _
      · rw [z]; exact Nat.le_refl _
    exact I1.fpOk hle (I1.hok.fresh hle)
end Evr
set_option Elab.async false
set_option linter.all false
set_option maxRecDepth 100000
set_option maxHeartbeats 4000000
/-! Comprehensions, slices, more built-ins over data. -/
namespace Evr
open PySem PySem.Spec PyProof.Rows L2

def hid (H : Hp) (a : Addr) : Hp := fun b => if b = a then none else H b
theorem hid_at {H : Hp} {a : Addr} : hid H a a = none := by unfold hid; rw [if_pos rfl]
theorem hid_ne {H : Hp} {a b : Addr} (h : b ≠ a) : hid H a b = H b := by unfold hid; rw [if_neg h]
theorem hid_back {H : Hp} {a : Addr} {o : HO} (e : H a = some o) : upd (hid H a) a o = H := by
  funext b
  by_cases h : b = a
  · subst h; rw [upd_same, e]
  · rw [upd_ne h, hid_ne h]
theorem Adv.hid {Hf H1 H0 H : Hp} {a : Addr} (x : Adv Hf H1 H0 H) (n1 : H1 a = none) (n0 : H0 a = none) : Adv Hf H1 H0 (hid H a) :=
  ⟨x.b, fun b o e => by rw [hid_ne (ne_of_none e n0)]; exact x.i b o e, fun b o e => by rw [hid_ne (ne_of_none e n1)]; exact x.s b o e, x.n⟩
theorem Adv.write {Hf H1 H0 H : Hp} {a : Addr} {o : HO} (x : Adv Hf H1 H0 H) (n1 : H1 a = none) (n0 : H0 a = none) : Adv Hf H1 H0 (upd H a o) :=
  ⟨x.b, fun b u e => by rw [upd_ne (ne_of_none e n0)]; exact x.i b u e, fun b u e => by rw [upd_ne (ne_of_none e n1)]; exact x.s b u e, x.n⟩
theorem Adv.keep {H0 H H0' H' : Hp} {a : Addr} {o : HO} (x : Adv H0 H H0' H') (n0 : H0 a = none) (e : H a = some o) : H0' a = none ∧ H' a = some o := ⟨x.n a n0 (by rw [e]; simp), x.s a o e⟩

/-- a target whose slots are among vs -/
def TgW (K : PySem.W.Frag) (g : TG) (vs : List Nat) (d : PyData) (Γ Γ' : List Sl) : Prop := ∀ h H0 σ H v, Sat K h H0 σ H Γ → Dp K H0 v d → ∀ Q : L2.St → Hp → Prop, (∀ σ', wipe σ' vs = wipe σ vs → Sat K h H0 σ' H Γ' → Q σ' H) → g v σ H Q
def TgsW (K : PySem.W.Frag) (g : TGs) (vs : List Nat) (ds : List PyData) (Γ Γ' : List Sl) : Prop := ∀ h H0 σ H ws, Sat K h H0 σ H Γ → DpAll K H0 ws ds → ∀ Q : L2.St → Hp → Prop, (∀ σ', wipe σ' vs = wipe σ vs → Sat K h H0 σ' H Γ' → Q σ' H) → g ws σ H Q
section
variable {K : PySem.W.Frag} {Γ Γ' : List Sl} {d : PyData} {ds es : List PyData} {g : TG} {vs : List Nat} {i : Nat}
theorem tw_name (hi : i ∈ vs) : TgW K (gName i) vs d Γ (Γ.set i (.d d)) := fun h H0 σ H v x e Q q => q _ (wipe_in hi) (x.setD e)
theorem tws_nil : TgsW K gNil vs [] Γ Γ := fun h H0 σ H ws x e Q q => by
  cases e
  exact ⟨rfl, q _ rfl x⟩
theorem tws_cons {gs : TGs} {Γ'' : List Sl} (h1 : TgW K g vs d Γ Γ') (h2 : TgsW K gs vs ds Γ' Γ'') : TgsW K (gCons g gs) vs (d :: ds) Γ Γ'' := fun h H0 σ H ws x e Q q => by
  cases e with
  | cons e1 e2 => exact ⟨_, _, rfl, h1 h H0 σ H _ x e1 _ fun σ' w1 x' => h2 h H0 σ' H _ x' e2 _ fun σ'' w2 x'' => q σ'' (w2.trans w1) x''⟩
theorem tw_tup {gs : TGs} {n : Nat} (h1 : TgsW K gs vs ds Γ Γ') (hn : ds.length = n) : TgW K (gTup K n gs) vs (.tuple ds) Γ Γ' := fun h H0 σ H v x e Q q => by
  obtain ⟨a, xs, rfl, hs, ha⟩ := dp_tup e
  exact ⟨a, xs, rfl, same_t x.i hs, (dps_len ha).trans hn, h1 h H0 σ H xs x ha Q q⟩
end
theorem take_succ_map {α β : Type} {xs : List α} {i : Nat} {x : α} {f : α → Option β} (h : xs[i]? = some x) : (xs.take (i + 1)).filterMap f = (xs.take i).filterMap f ++ (f x).toList := by
  rw [List.take_add_one, h, List.filterMap_append]
  congr 1
section
variable {K : PySem.W.Frag} {Γ Γ' : List Sl} {te tl : TE} {tt : TT} {d : PyData} {ds es : List PyData} {g : TG} {vs : List Nat} {wi : TI}
/-- [e for target in iter if test] -/
theorem en_lc (f : PyData → Option PyData) (hi : ItD K wi Γ ds) (hl : ds.length ≤ 100000)
    (hs : ∀ (i : Nat) d, ds[i]? = some d → ∃ Γ2, TgW K g vs d (wipeG Γ vs) Γ2 ∧ ∃ b, EtD K tt Γ2 b ∧ (b = true → ∃ e, f d = some e ∧ EvD K te Γ2 e) ∧ (b = false → f d = none)) :
    EvN K (tLc wi g tt te vs) Γ (ds.filterMap f) := fun hh H0 σ Hs x Q q => hi hh H0 σ Hs x _ fun J Hf H1 a w D hD => by
  refine ⟨fun i m H => m = ds.length - i ∧ i ≤ ds.length ∧ ∃ G0 us, Adv Hf H1 G0 H ∧ G0 D = none ∧ H D = some (.lst us) ∧ DpAll K G0 us ((ds.take i).filterMap f), ⟨_, rfl, Nat.zero_le _, Hf, [], (Adv.refl a.i).write hD (a.i.free hD), a.i.free hD, upd_same, ?_⟩, ?_⟩
  · rw [List.take_zero]
    exact .nil
  rintro i m H ⟨rfl, hle, G0, us, aH, n0, eD, dd⟩
  by_cases hlt : i < ds.length
  · refine .inr ⟨w.go i H hlt (aH.b.trans aH.i), fun H' => i + 1 ≤ ds.length ∧ ∃ G0 us, Adv Hf H1 G0 H' ∧ G0 D = none ∧ H' D = some (.lst us) ∧ DpAll K G0 us ((ds.take (i + 1)).filterMap f), fun H' p => ⟨_, by omega, rfl, p.1, p.2⟩, fun v H' y => ?_⟩
    obtain ⟨d, e, k⟩ := w.yld i H v H' hlt (aH.b.trans aH.i) y
    obtain ⟨G1, a1, e1⟩ := k G0 aH.b aH.i
    have x1 : Sat K hh G1 (wipe σ vs) H' (wipeG Γ vs) := (((x.adv a).adv (aH.trans a1))).wipe vs
    obtain ⟨Γ2, tg, b, ht, hT, hF⟩ := hs i d e
    refine tg hh G1 _ H' v x1 e1 _ fun σ' w1 x2 => ⟨w1.trans wipe_wipe, ?_⟩
    refine ht hh G1 σ' H' x2 _ fun G2 H2 a2 => ?_
    have keep := ((a1.trans a2).keep n0 eD)
    cases b with
    | false =>
      show i + 1 ≤ ds.length ∧ _
      refine ⟨hlt, G2, us, aH.trans (a1.trans a2), keep.1, keep.2, ?_⟩
      rw [take_succ_map e, hF rfl]
      rw [Option.toList_none, List.append_nil]
      exact dps_mono (a1.b.trans a2.b) _ _ dd
    | true =>
      show te σ' H2 _
      obtain ⟨e', ef, he⟩ := hT rfl
      refine he hh G2 σ' H2 (x2.adv a2) _ fun u G3 H3 a3 e3 => ?_
      have a13 := a1.trans (a2.trans a3)
      have keep3 := a13.keep n0 eD
      have dd3 := dps_mono a13.b _ _ dd
      have hlen : us.length ≤ i := by
        rw [dps_len dd]
        refine Nat.le_trans (List.length_filterMap_le _ _) ?_
        rw [List.length_take]
        exact Nat.min_le_left _ _
      refine ⟨us, keep3.2, Nat.lt_of_lt_of_le (show us.length < 100000 by omega) (show 100000 ≤ sizeLine by decide), hlt, G3, _, (aH.trans a13).write hD keep3.1, keep3.1, upd_same, ?_⟩
      rw [take_succ_map e, ef]
      exact dps_snoc dd3 e3
  · have e : i = ds.length := by omega
    subst e
    refine .inl ⟨w.stop H (aH.b.trans aH.i), ?_⟩
    rw [List.take_length] at dd
    have := q D us G0 (hid H D) ((a.trans aH).hid (a.s.free hD) n0) hid_at dd
    rw [hid_back eD] at this
    exact this
theorem ts_nil : EtD K (fun σ H Q => Q true H) Γ true := fun hh H0 σ H x Q q => q _ _ (Adv.refl x.i)
/-- .. all of it -/
theorem en_map (f : PyData → PyData) (hi : ItD K wi Γ ds) (hl : ds.length ≤ 100000)
    (hs : ∀ (i : Nat) d, ds[i]? = some d → ∃ Γ2, TgW K g vs d (wipeG Γ vs) Γ2 ∧ EtD K tt Γ2 true ∧ EvD K te Γ2 (f d)) :
    EvN K (tLc wi g tt te vs) Γ (ds.map f) := by
  have z := en_lc (K := K) (te := te) (tt := tt) (g := g) (vs := vs) (fun d => some (f d)) hi hl fun i d e => by
    obtain ⟨Γ2, h1, h2, h3⟩ := hs i d e
    exact ⟨Γ2, h1, true, h2, fun _ => ⟨_, rfl, h3⟩, fun q => by cases q⟩
  rw [List.filterMap_eq_map'] at z
  exact z
end
/-! ### slices, repetition, joining -/
def cutD (xs : List PyData) (lo hi : Option Int) : List PyData := (xs.drop (HT.sIx xs.length 0 lo)).take (HT.sIx xs.length xs.length hi - HT.sIx xs.length 0 lo)
section
variable {K : PySem.W.Frag} {Γ Γ' : List Sl} {te ta tb : TE} {tl th : TO} {d : PyData} {ds es : List PyData} {lo hi : Option Int}
theorem dps_cut {H : Hp} {vs : List V} (h : DpAll K H vs ds) : DpAll K H (cutV vs lo hi) (cutD ds lo hi) := by
  unfold cutV cutD
  rw [dps_len h]
  exact dps_take _ (dps_drop _ h)
theorem cut_all (h : HT.sIx ds.length 0 lo = 0 ∧ HT.sIx ds.length ds.length hi = ds.length) : cutD ds lo hi = ds := by
  unfold cutD
  rw [h.1, h.2]
  simp
theorem ed_slT (h : EvD K te Γ (.tuple ds)) (h1 : EoD K tl Γ lo) (h2 : EoD K th Γ hi) : EvD K (tSl (rSlA K) te tl th) Γ (.tuple (cutD ds lo hi)) := fun hh H0 σ H x Q q =>
  h hh H0 σ H x _ fun v H1 H' a e => h1 hh H1 σ H' (x.adv a) _ fun H2 H2' a2 => h2 hh H2 σ H2' ((x.adv a).adv a2) _ fun H3 H3' a3 => by
    obtain ⟨p, xs, rfl, hs, ha⟩ := dp_tup e
    have a23 := a2.trans a3
    have hl := dps_len ha
    refine ⟨p, xs, rfl, same_t a3.i (same_t a23.b hs), fun hw => ?_, fun _ r hr => ?_⟩
    · rw [hl] at hw
      rw [cut_all hw] at q
      exact q _ _ _ (a.trans a23) (dp_mono a23.b _ _ e)
    · have z := adv_tup (K := K) (a.trans a23) hr (dps_cut (lo := lo) (hi := hi) (dps_mono a23.b _ _ ha))
      exact q _ _ _ z.1 z.2
theorem en_slL (h : EvD K te Γ (.list ds)) (h1 : EoD K tl Γ lo) (h2 : EoD K th Γ hi) : EvN K (tSl (rSlL K) te tl th) Γ (cutD ds lo hi) := fun hh H0 σ H x Q q =>
  h hh H0 σ H x _ fun v H1 H' a e => h1 hh H1 σ H' (x.adv a) _ fun H2 H2' a2 => h2 hh H2 σ H2' ((x.adv a).adv a2) _ fun H3 H3' a3 => by
    obtain ⟨p, xs, rfl, hs, ha⟩ := dp_lst e
    have a23 := a2.trans a3
    exact ⟨p, xs, rfl, a3.i.seq (a23.b.seq hs), fun r hr => q r _ _ _ (a.trans a23) hr (dps_cut (dps_mono a23.b _ _ ha))⟩
theorem dps_rep {H : Hp} {vs : List V} (h : DpAll K H vs ds) : ∀ n : Nat, DpAll K H (List.replicate n vs).flatten (List.replicate n ds).flatten
  | 0 => .nil
  | n + 1 => by
    rw [List.replicate_succ, List.replicate_succ, List.flatten_cons, List.flatten_cons]
    exact dps_app h (dps_rep h n)
/-- [d] * n -/
theorem en_rep {n : Int} (h : EvN K ta Γ [d]) (h2 : EvD K tb Γ (.int n)) (hn : -100000 ≤ n ∧ n ≤ 100000) : EvN K (tOp rRep ta tb) Γ (List.replicate n.toNat d) := fun hh H0 σ H x Q q =>
  h hh H0 σ H x _ fun p vs H1 H' a np dd => by
    have z := adv_list (K := K) a np dd
    refine h2 hh _ σ _ (x.adv z.1) _ fun w H2 H'' a2 e2 => ?_
    have l2 : H'' p = some (.lst vs) := a2.s _ _ upd_same
    have hl := dps_len dd
    refine ⟨p, n, vs, rfl, dp_int e2, l2, by omega, by omega, Nat.le_trans (show vs.length * n.toNat ≤ 100000 by rw [hl]; show 1 * n.toNat ≤ 100000; omega) (by decide), fun r hr => ?_⟩
    have e : (List.replicate n.toNat d) = (List.replicate n.toNat [d]).flatten := by
      induction n.toNat with
      | zero => rfl
      | succ m ih => rw [List.replicate_succ, List.replicate_succ, List.flatten_cons, ← ih]; rfl
    rw [e] at q
    exact q r _ H2 H'' (z.1.trans a2) hr (dps_mono a2.b _ _ (dps_mono (same_new (a.i.free np)) _ _ (dps_rep dd n.toNat)))
/-- a list that stands in H -/
def EvLs (K : PySem.W.Frag) (te : TE) (Γ : List Sl) (ds : List PyData) : Prop :=
  ∀ h H0 σ H, Sat K h H0 σ H Γ → ∀ Q : VK, (∀ p vs H0' H', Adv H0 H H0' H' → H' p = some (.lst vs) → DpAll K H0' vs ds → Q (.ref p) H') → te σ H Q
theorem ls_own {i : Nat} {pin : Option Addr} (e : Γ[i]? = some (.own ds pin)) : EvLs K (tVar i) Γ ds := fun hh H0 σ H x Q q => by
  obtain ⟨p, vs, e1, n1, n0, l, dd⟩ := x.getOwn e
  exact ⟨_, e1, q p vs H0 H (Adv.refl x.i) l dd⟩
theorem ls_new (h : EvN K te Γ ds) : EvLs K te Γ ds := fun hh H0 σ H x Q q => h hh H0 σ H x _ fun p vs H1 H' a np dd =>
  q p vs _ _ (adv_list (K := K) a np dd).1 upd_same (dps_mono (same_new (a.i.free np)) _ _ dd)
theorem en_cat (h1 : EvLs K ta Γ ds) (h2 : EvLs K tb Γ es) (hl : ds.length + es.length ≤ 100000) : EvN K (tOp rCat ta tb) Γ (ds ++ es) := fun hh H0 σ H x Q q =>
  h1 hh H0 σ H x _ fun p vs H1 H' a l1 d1 => h2 hh H1 σ H' (x.adv a) _ fun p2 us H2 H'' a2 l2 d2 =>
    ⟨p, p2, vs, us, rfl, rfl, a2.s _ _ l1, l2, Nat.le_trans (by rw [dps_len d1, dps_len d2]; exact hl) (show 100000 ≤ sizeLine by decide), fun r hr => q r _ _ _ (a.trans a2) hr (dps_app (dps_mono a2.b _ _ d1) d2)⟩
end
/-! ### isinstance -/
section
variable {K : PySem.W.Frag} {Γ : List Sl} {te : TE} {ds : List PyData}
theorem ty_int {H : Hp} {i : Int} : TyX K H (.int i) (.type "int") := .base (.int i)
theorem ed_isiInt {i : Int} {T : String} {b : Bool} (h : EvD K te Γ (.int i)) (hb : kitB "int" T = some b) : EvD K (tCB (rIsi K) (tCons te (tCons (tC (.ty T)) tNil))) Γ (.bool b) := fun hh H0 σ H x Q q =>
  h hh H0 σ H x _ fun v H1 H' a e => by
    rw [dp_int e]
    exact ⟨.int i, .ty T, _, _, b, rfl, .ty T, ty_int, kit_ty hb, q _ _ _ a (.bl _)⟩
theorem ty_tup {H : Hp} {a : Addr} {xs : List V} (h : SqT K H a xs) : TyX K H (.ref a) (.type "tuple") := by
  rcases h with (h | ⟨o, h⟩) | ⟨o, its, n, h, hc, _⟩
  · exact .base (.tup h)
  · exact .fTuple h
  · exact .kTuple h hc
theorem ed_isiTup {T : String} {b : Bool} (h : EvD K te Γ (.tuple ds)) (hb : kitB "tuple" T = some b) : EvD K (tCB (rIsi K) (tCons te (tCons (tC (.ty T)) tNil))) Γ (.bool b) := fun hh H0 σ H x Q q =>
  h hh H0 σ H x _ fun v H1 H' a e => by
    obtain ⟨p, xs, rfl, hs, ha⟩ := dp_tup e
    exact ⟨.ref p, .ty T, _, _, b, rfl, .ty T, ty_tup (same_t a.i hs), kit_ty hb, q _ _ _ a (.bl _)⟩
/-! ### in a tuple of ints; a chain; enumerate -/
theorem rd_in {k : Int} {ns : List Int} : RD K (rIn K false) (.int k) (.tuple (ns.map PyData.int)) (.bool (ns.any fun y => decide (y = k))) := fun H0 H x y s e1 e2 Q q => by
  obtain ⟨p, xs, rfl, hs, ha⟩ := dp_tup e2
  rw [dps_intsV ha] at hs
  rw [dp_int e1]
  refine ⟨p, _, rfl, .inr (same_t s hs), rfl, ?_, ?_⟩
  · rw [List.all_map]
    exact List.all_eq_true.mpr fun _ _ => rfl
  · have e : inV (.int k) (ns.map V.int) = ns.any fun y => decide (y = k) := by
      unfold inV
      rw [List.any_map]
      congr 1
    rw [if_neg Bool.false_ne_true, e]
    exact q _ _ _ (Adv.refl s) (.bl _)
theorem it_enT {ta : TA} (h : EaD K ta Γ [.tuple ds]) : ItD K (iEnT K ta) Γ (pairsD ((List.range ds.length).map fun i => PyData.int (i : Nat)) ds) := fun hh H0 σ H x R k => h hh H0 σ H x _ fun vs H1 H' a e => by
  obtain ⟨v, rfl, e1⟩ := dps_one e
  obtain ⟨p, xs, rfl, hs, ha⟩ := dp_tup e1
  have hl := dps_len ha
  have hpl : (pairsD ((List.range ds.length).map fun i => PyData.int (i : Nat)) ds).length = ds.length := by
    rw [pairsD_len, List.length_map, List.length_range]; omega
  refine ⟨p, xs, rfl, same_t a.i hs, k _ H1 H' a ⟨fun i H hi s => ?_, fun H s => ?_, fun i H v H' hi s y => ?_⟩⟩
  · rw [hpl] at hi
    exact ⟨xs, xs[i]'(by omega), same_t s hs, by simp [show i < xs.length by omega]⟩
  · exact ⟨xs, same_t s hs, by rw [hpl, hl]⟩
  · rw [hpl] at hi
    obtain ⟨T, v1, f1, f2, f3, f4⟩ := y
    obtain ⟨d1, g1, g2⟩ := dps_getV ha (f4 xs (same_t s hs))
    subst f1
    exact ⟨_, pairsD_get _ ds i _ d1 (by simp [hi]) g1, fun H0 s1 s2 => yld_pair (.int _) g2 f2 f3 s1 s2⟩
end
end Evr
set_option Elab.async false
set_option linter.all false
set_option maxRecDepth 100000
set_option maxHeartbeats 4000000
/-! sorted(d.items()), d a dict of ints by ints. -/
namespace Evr
open PySem PySem.Spec PyProof.Rows L2
abbrev wtK (w : List (Int × Int)) : List (Key × V) := w.map fun kv => (.inl kv.1, .int kv.2)
abbrev dkI (w : List (Int × Int)) : HO := .dK (wtK w)
abbrev bigB : Int := 1099511627776
/-- tuples tracked at their addresses -/
def putZ : Hp → List (Addr × Int × Int) → Hp
  | H, [] => H
  | H, z :: zs => putZ (upd H z.1 (.tup [.int z.2.1, .int z.2.2])) zs
theorem putZ_off {b : Addr} : ∀ (zs : List (Addr × Int × Int)) (H : Hp), b ∉ zs.map (·.1) → putZ H zs b = H b
  | [], _, _ => rfl
  | z :: zs, H, h => by
    show putZ (upd H z.1 _) zs b = H b
    rw [putZ_off zs _ (fun q => h (List.mem_cons_of_mem _ q)), upd_ne (fun q => h (by rw [q]; exact List.mem_cons_self))]
theorem putZ_at : ∀ (zs : List (Addr × Int × Int)) (H : Hp), (zs.map (·.1)).Nodup → ∀ z ∈ zs, putZ H zs z.1 = some (.tup [.int z.2.1, .int z.2.2])
  | [], _, _, z, hz => by cases hz
  | y :: zs, H, hn, z, hz => by
    have hn' := List.nodup_cons.mp hn
    show putZ (upd H y.1 _) zs z.1 = _
    rcases List.mem_cons.mp hz with e | hz
    · rw [e, putZ_off zs _ hn'.1, upd_same]
    · exact putZ_at zs _ hn'.2 z hz
section
variable {X : Cx}
theorem z_refs : ∀ zs : List (Addr × Int × Int), Vals (zs.map fun z => V.ref z.1) (zs.map fun z => Value.ref z.1)
  | [] => .nil
  | _ :: zs => .cons rfl (z_refs zs)
/-- from the heap's words to what is tracked -/
theorem laidZ {pins : List (Addr × Obj)} {σ : L2.St} {H : Hp} {s : Shared} {h' : Heap} {tk : Nat} {zs ys : List (Addr × Int × Int)} {p : Addr} {c : Nat} (I : Inv X pins σ H s) (hk : ∀ b o, s.heap.get? b = some o → h'.get? b = some o)
    (nd : (zs.map (·.1)).Nodup) (lo : ∀ z ∈ zs, s.heap.objs.size ≤ z.1) (hz : ∀ z ∈ zs, ∃ t1 t2, h'.get? z.1 = some { cls := .type "tuple", data := .seq #[Value.int z.2.1 t1, Value.int z.2.2 t2] }) (hp : s.heap.objs.size ≤ p) (hpz : p ∉ zs.map (·.1))
    (hl : h'.get? p = some (seqObj "list" (ys.map fun z => Value.ref z.1).toArray c)) (hy : ys.length ≤ sizeLine) : Inv X pins σ (upd (putZ H zs) p (.lst (ys.map fun z => V.ref z.1))) { s with heap := h', toks := tk } := by
  have fr : ∀ b, s.heap.objs.size ≤ b → H b = none := fun b hb => I.hok.fresh hb
  have low : ∀ b o, s.heap.get? b = some o → b ∉ zs.map (·.1) ∧ b ≠ p := fun b o e => by
    have lt := Heap.lt_size e
    refine ⟨fun q => ?_, Nat.ne_of_lt (Nat.lt_of_lt_of_le lt hp)⟩
    obtain ⟨z, hz1, e1⟩ := List.mem_map.mp q
    exact absurd (lo z hz1) (by rw [e1]; exact Nat.not_le.mpr lt)
  have off : ∀ b, b ∉ zs.map (·.1) → b ≠ p → upd (putZ H zs) p (.lst (ys.map fun z => V.ref z.1)) b = H b := fun b h1 h2 => by rw [upd_ne h2, putZ_off zs H h1]
  have kp : ∀ b u, H b = some u → upd (putZ H zs) p (.lst (ys.map fun z => V.ref z.1)) b = some u := fun b u e => by
    have lt : b < s.heap.objs.size := by
      rcases Nat.lt_or_ge b s.heap.objs.size with q | q
      · exact q
      · rw [fr b q] at e; cases e
    rw [off b (fun q => ?_) (Nat.ne_of_lt (Nat.lt_of_lt_of_le lt hp))]
    · exact e
    · obtain ⟨z, hz1, e1⟩ := List.mem_map.mp q
      exact absurd (lo z hz1) (by rw [e1]; exact Nat.not_le.mpr lt)
  refine I.call' (ch := []) rfl ⟨fun b o q _ _ _ => hk b o q, fun b o q _ _ _ => ⟨o.slots, hk b o q⟩, fun b o q n _ => ?_, fun b o q _ => ⟨o, hk b o q⟩, fun b xs q => kp b _ q, fun b o u q => kp b _ q, fun b ps q => ⟨#[], by rw [kp b _ q]; simp⟩⟩ (fun b u q => ?_) I.bare fun b z => by simp at z
  · obtain ⟨z1, z2⟩ := low b o q
    rw [off b z1 z2]
    exact n
  · by_cases h2 : b = p
    · subst h2
      rw [upd_same] at q
      cases q
      exact ⟨by rw [List.length_map]; exact hy, (ys.map fun z => Value.ref z.1), c, z_refs ys, hl⟩
    · by_cases h1 : b ∈ zs.map (·.1)
      · obtain ⟨z, hz1, rfl⟩ := List.mem_map.mp h1
        rw [upd_ne h2, putZ_at zs H nd z hz1] at q
        cases q
        obtain ⟨t1, t2, e⟩ := hz z hz1
        exact ⟨by show 2 ≤ sizeLine; decide, [Value.int z.2.1 t1, Value.int z.2.2 t2], .cons ⟨_, rfl⟩ (.cons ⟨_, rfl⟩ .nil), ⟨_, e, rfl, _, rfl⟩⟩
      · rw [off b h1 h2] at q
        exact (I.hok b u q).stay (fun d v _ y => hk d v y) (fun d y => kp d _ y) fun d xs y => kp d _ y
/-- the items' tuples, as they stand -/
theorem zs_of {P : Program} {w : World} {wl : List (Int × Int)} {vs : List (Key × Value)} {lo : Addr} {h' : Heap} : ∀ {as : List Addr} {l : List (Int × Int)} {us : List (Key × Value)}, KV (wtK l) us → as.length = us.length →
    (∀ (j : Nat) (a : Addr), as[j]? = some a → ∃ key k x, us[j]? = some (k, x) ∧ (mixKind P w).is k key = true ∧ h'.get? a = some { cls := .type "tuple", data := .seq #[key, x] }) →
    ∃ zs : List (Addr × Int × Int), zs.map (·.1) = as ∧ zs.map (·.2) = l ∧ ∀ z ∈ zs, ∃ t1 t2, h'.get? z.1 = some { cls := .type "tuple", data := .seq #[Value.int z.2.1 t1, Value.int z.2.2 t2] }
  | [], [], _, kv, _, _ => ⟨[], rfl, rfl, fun z hz => by cases hz⟩
  | [], _ :: _, _, .cons _ _, hl, _ => by cases hl
  | a :: as, [], _, kv, hl, _ => by
    cases kv
    cases hl
  | a :: as, y :: l, q :: us, .cons r kv, hl, hp => by
    obtain ⟨zs, h1, h2, h3⟩ := zs_of (P := P) (w := w) (wl := wl) (vs := vs) (lo := lo) (as := as) (l := l) (us := us) kv (Nat.succ.inj hl) fun j b e => hp (j + 1) b e
    obtain ⟨key, k, x, g1, g2, g3⟩ := hp 0 a rfl
    have g1' := Option.some.inj g1
    subst g1'
    obtain ⟨r1, t2, r2⟩ := r
    have r1' : k = .inl y.1 := r1.symm
    subst r1'
    have r2' : x = Value.int y.2 t2 := r2
    obtain ⟨t1, e1⟩ := relV_key (show keyIs (.inl y.1) key = true from g2)
    have e1' : key = Value.int y.1 t1 := e1
    subst e1' r2'
    refine ⟨(a, y) :: zs, by rw [List.map_cons, h1], by rw [List.map_cons, h2], fun z hz => ?_⟩
    rcases List.mem_cons.mp hz with e | hz
    · subst e
      exact ⟨t1, t2, g3⟩
    · exact h3 z hz
def tSortIt (te : TE) : TE := fun σ H Q => te σ H fun x H1 => ∃ (d : Addr) (wl : List (Int × Int)), x = .ref d ∧ H1 d = some (dkI wl) ∧ wl.length < 64 ∧ (∀ kv ∈ wl, (0 ≤ kv.1 ∧ kv.1 < bigB) ∧ (0 ≤ kv.2 ∧ kv.2 < bigB)) ∧
  ∀ (zs ys : List (Addr × Int × Int)) (p : Addr), zs.map (·.2) = wl → (zs.map (·.1)).Nodup → (∀ z ∈ zs, H1 z.1 = none) → H1 p = none → p ∉ zs.map (·.1) → ys.Perm zs → ys.Pairwise (fun a b => TS.code bigB [a.2.1, a.2.2] ≤ TS.code bigB [b.2.1, b.2.2]) →
    Q (.ref p) (upd (putZ H1 zs) p (.lst (ys.map fun z => V.ref z.1)))
variable {e : Expr} {te : TE} {p apos cpos pos : Pos}
theorem pe_sortIt (hc : X.calm = true) (he : PE X e te) (hg : Gl X "sorted") (hm : X.mg "sorted" = none) (hv : bootBuiltins "sorted" = some (.builtin "sorted")) (hbase : attributeBase e "items" X.env (eval e X.env) = eval e X.env := by rfl) (hline : (apos.endLine == cpos.line) = true := by rfl)
    (hs : starEach [.Call (.Attribute e "items" apos) [] [] cpos] X.env = [(false, eval (.Call (.Attribute e "items" apos) [] [] cpos) X.env)] := by rfl) :
    PE X (.Call (.Name "sorted" p) [.Call (.Attribute e "items" apos) [] [] cpos] [] pos) (tSortIt te) := by
  refine ⟨fun pins s σ H Q I hq => ?_⟩
  refine wpAny_Call_Name_kw (ld_blt I hg hm (u := .builtin "sorted") hv ?_ (by first | decide +kernel | decide) (by first | decide +kernel | decide))
  rw [hs]
  refine PySem.callWith_builtin1 ?_
  refine wpAny_Call_method (T := "dict") (id := "dict.items") hbase rfl hline F.plainAttrs_dict F.slot_dict_items F.type_dict_items (thn (he.run pins s σ H _ I hq) fun u s1 ⟨x, H1, I1, rx, d, wl, ex, hd, hlen, hbd, q⟩ => ?_)
  subst ex
  obtain rfl : u = Value.ref d := rx
  obtain ⟨hz, hs0, vs, kv, hdo⟩ := I1.hok d _ hd
  obtain ⟨ep, hat⟩ := hdo.dictAt
  have lk : (wtK wl).length = vs.length := Paired.length kv
  have lw : wl.length = vs.length := by rw [← lk, List.length_map]
  refine ⟨hdo.typeIs, hdo.mapOf.noDict, ?_⟩
  show wpAny _ _ (callWith cpos (.builtin "dict.items") [.ref d] [] []) _ X.xe s1
  refine method_meetsIn F.slot_dict_items F.entry_dict_items rfl (PySem.evalArgs_none ⟨rfl, hdo.typeIs, F.args_dict_items_1 _, _, meets_dict_items (mixKind X.prog X.w) d hs0, ⟨vs, hdo⟩, ?_⟩)
  refine Calls.call_function_entry kind_sorted plain_sorted entry_sorted (args_sorted1 _) ?_
  unfold Builtin.«sorted»
  refine wpAny_bind (m := checkCount "sorted" 1 1 _) (wpAny_pure (wpAny_bind ?_))
  refine PySem.W.kdx_collect (knd := mixKind X.prog X.w) (kvs := vs) (ep := ep) (show X.A.in1.handled = none from I.ok.hd hc) ⟨_, Heap.get?_push_size _ rfl, rfl, rfl⟩ (hat.push _) (by rw [sizeLine_eq]; omega) fun h1 tk as k1 ha hG => ?_
  obtain ⟨zs, e1, e2, e3⟩ := zs_of (P := X.prog) (w := X.w) (wl := wl) (vs := vs) (lo := 0) kv ha hG.pairs
  have nd : (zs.map (·.1)).Nodup := by
    rw [e1]
    exact List.Pairwise.imp (fun {a b} (h : a < b) => Nat.ne_of_lt h) hG.rise
  have sz1 : (s1.heap.push { cls := .type "dict_items", data := .fields #[.ref d] }).objs.size = s1.heap.objs.size + 1 := Heap.size_push ..
  have lo : ∀ z ∈ zs, s1.heap.objs.size ≤ z.1 := fun z hz => by
    have h := hG.above z.1 (by rw [← e1]; exact List.mem_map.mpr ⟨z, hz, rfl⟩)
    have h' : (s1.heap.push { cls := .type "dict_items", data := .fields #[.ref d] }).objs.size < z.1 := h
    rw [sz1] at h'
    omega
  have zl : zs.length = wl.length := by rw [← e2, List.length_map]
  have eas : as.map Value.ref = zs.map fun z => Value.ref z.1 := by rw [← e1, List.map_map]; rfl
  rw [eas]
  refine wpAny_bind (wpAny_newList ?_ (by rw [List.length_map, sizeLine_eq]; omega))
  have hoL : (h1.push (seqObj "list" (zs.map fun z => Value.ref z.1).toArray 0)).get? h1.objs.size = some (seqObj "list" (zs.map fun z => Value.ref z.1).toArray 0) := Heap.get?_push_size _ rfl
  have tu : ∀ z ∈ zs, TS.TupInts (h1.push (seqObj "list" (zs.map fun z => Value.ref z.1).toArray 0)) (.ref z.1) [z.2.1, z.2.2] := fun z hz => by
    obtain ⟨t1, t2, g⟩ := e3 z hz
    exact ⟨z.1, _, rfl, ⟨_, Heap.get?_push_of_some _ g, rfl, _, rfl⟩, .cons _ _ (.cons _ _ .nil)⟩
  have ok : TS.TupsOk (h1.push (seqObj "list" (zs.map fun z => Value.ref z.1).toArray 0)) 2 bigB (zs.map fun z => Value.ref z.1) := fun v hv => by
    obtain ⟨z, hz, rfl⟩ := List.mem_map.mp hv
    refine ⟨_, tu z hz, rfl, fun m hm => ?_⟩
    have hb := hbd z.2 (by rw [← e2]; exact List.mem_map.mpr ⟨z, hz, rfl⟩)
    rcases List.mem_cons.mp hm with r | hm
    · rw [r]; exact hb.1
    · rw [List.mem_singleton.mp hm]; exact hb.2
  refine wpAny_bind (wpAny_holding (TS.call_sort_tups (s := { s1 with heap := h1.push (seqObj "list" (zs.map fun z => Value.ref z.1).toArray 0), toks := tk }) hoL (by rw [List.length_map]; omega) (by decide) ok fun out a1 a2 => ?_))
  have pick : ∀ us : List Value, (∀ u ∈ us, ∃ z ∈ zs, u = Value.ref z.1) → ∃ ys : List (Addr × Int × Int), us = ys.map (fun z => Value.ref z.1) ∧ ∀ z ∈ ys, z ∈ zs := by
    intro us
    induction us with
    | nil => intro _; exact ⟨[], rfl, fun _ h => by cases h⟩
    | cons u us ih =>
      intro h
      obtain ⟨z, hz, e⟩ := h u List.mem_cons_self
      obtain ⟨ys, e', hs'⟩ := ih fun v hv => h v (List.mem_cons_of_mem _ hv)
      refine ⟨z :: ys, by rw [List.map_cons, e, e'], fun r hr => ?_⟩
      rcases List.mem_cons.mp hr with q | q
      · rw [q]; exact hz
      · exact hs' r q
  obtain ⟨ys, ey, sub⟩ := pick out.toList fun u hu => by
    obtain ⟨z, hz, e⟩ := List.mem_map.mp (a1.mem_iff.mp hu)
    exact ⟨z, hz, e.symm⟩
  have inj : ∀ a ∈ zs, ∀ b ∈ zs, a.1 = b.1 → a = b := fun a ha b hb e => by
    obtain ⟨i, hi, rfl⟩ := List.mem_iff_getElem.mp ha
    obtain ⟨j, hj, rfl⟩ := List.mem_iff_getElem.mp hb
    have hij : i = j := by
      rcases Nat.lt_trichotomy i j with c | c | c
      · exact absurd e (List.pairwise_iff_getElem.mp (List.pairwise_map.mp nd) i j hi hj c)
      · exact c
      · exact absurd e.symm (List.pairwise_iff_getElem.mp (List.pairwise_map.mp nd) j i hj hi c)
    subst hij
    rfl
  have nz : zs.Nodup := List.Pairwise.imp (fun {a b} h e => h (congrArg Prod.fst e)) (List.pairwise_map.mp nd)
  have pm : ys.Perm zs := by
    have p1 : (ys.map fun z => Value.ref z.1).Perm (zs.map fun z => Value.ref z.1) := by rw [← ey]; exact a1
    have nv : (zs.map fun z => Value.ref z.1).Nodup := by
      refine List.pairwise_map.mpr (List.Pairwise.imp_of_mem (fun {a b} ha hb hne e => ?_) nz)
      injection e with e
      exact hne (inj a ha b hb e)
    have ny : ys.Nodup := List.Pairwise.imp (fun {a b} h e => h (congrArg (fun z : Addr × Int × Int => Value.ref z.1) e)) (List.pairwise_map.mp (p1.nodup_iff.mpr nv))
    refine (List.perm_ext_iff_of_nodup ny nz).mpr fun z => ⟨sub z, fun hz => ?_⟩
    obtain ⟨y, hy, e⟩ := List.mem_map.mp (p1.mem_iff.mpr (List.mem_map.mpr ⟨z, hz, rfl⟩))
    injection e with e
    rw [← inj y (sub y hy) z hz e]
    exact hy
  have pw : ys.Pairwise (fun a b => TS.code bigB [a.2.1, a.2.2] ≤ TS.code bigB [b.2.1, b.2.2]) := by
    rw [ey] at a2
    refine List.Pairwise.imp_of_mem (fun {a b} ha hb hle => ?_) (List.pairwise_map.mp a2)
    rw [← (tu a (sub a ha)).ints, ← (tu b (sub b hb)).ints]
    exact hle
  obtain ⟨c, hcc⟩ := sortedHeap_at (vs := zs.map fun z => Value.ref z.1) (out := out) hoL
  have eo : out = (ys.map fun z => Value.ref z.1).toArray := by rw [← Array.toArray_toList (xs := out), ey]
  rw [eo] at hcc
  have hk : ∀ b o, s1.heap.get? b = some o → (sortedHeap (h1.push (seqObj "list" (zs.map fun z => Value.ref z.1).toArray 0)) h1.objs.size (zs.map fun z => Value.ref z.1) (ys.map fun z => Value.ref z.1).toArray).get? b = some o := fun b o g => by
    have q := k1 b o (Heap.get?_push_of_some _ g)
    have lt := Heap.lt_size q
    rw [sortedHeap_old (Nat.ne_of_lt lt) (by rw [size_push']; exact Nat.lt_succ_of_lt lt)]
    exact Heap.get?_push_of_some _ q
  have hz1 : ∀ z ∈ zs, ∃ t1 t2, (sortedHeap (h1.push (seqObj "list" (zs.map fun z => Value.ref z.1).toArray 0)) h1.objs.size (zs.map fun z => Value.ref z.1) (ys.map fun z => Value.ref z.1).toArray).get? z.1 = some { cls := .type "tuple", data := .seq #[Value.int z.2.1 t1, Value.int z.2.2 t2] } := fun z hz => by
    obtain ⟨t1, t2, g⟩ := e3 z hz
    have lt := Heap.lt_size g
    refine ⟨t1, t2, ?_⟩
    rw [sortedHeap_old (Nat.ne_of_lt lt) (by rw [size_push']; exact Nat.lt_succ_of_lt lt)]
    exact Heap.get?_push_of_some _ g
  have hps : s1.heap.objs.size ≤ h1.objs.size := by
    exact Nat.le_of_lt (Heap.lt_size (k1 _ _ (Heap.get?_push_size s1.heap (o := { cls := .type "dict_items", data := .fields #[.ref d] }) rfl)))
  have hpz : h1.objs.size ∉ zs.map (·.1) := fun q => by
    obtain ⟨z, hz, e⟩ := List.mem_map.mp q
    obtain ⟨t1, t2, g⟩ := e3 z hz
    have lt := Heap.lt_size g
    rw [e] at lt
    exact absurd lt (Nat.lt_irrefl _)
  rw [eo]
  have J := laidZ (tk := tk) I1 hk nd lo hz1 hps hpz hcc (by rw [pm.length_eq, sizeLine_eq]; omega)
  exact wpAny_pure ⟨_, rfl, .ref h1.objs.size, _, J, rfl, q zs ys h1.objs.size e2 nd (fun z hz => I1.hok.fresh (lo z hz)) (I1.hok.fresh hps) hpz pm pw⟩
end
end Evr
set_option Elab.async false
set_option linter.all false
set_option maxRecDepth 100000
set_option maxHeartbeats 4000000
/-! sorted(set(xs)) where xs has one item, a pair of a row and an int. -/
namespace Evr
open PySem PySem.Spec PyProof.Rows L2
abbrev pk (r : List Int) (m : Int) : NestedKey := .tup [.tup (r.map NestedKey.num), .num m]
theorem depth_nums : ∀ r : List Int, NestedKey.depthAll (r.map NestedKey.num) = 0
  | [] => by simp [NestedKey.depthAll]
  | x :: r => by rw [List.map_cons, NestedKey.depthAll, depth_nums r]; simp [NestedKey.depth]
theorem depth_pk (r : List Int) (m : Int) : (pk r m).depth ≤ 8 := by
  simp [pk, NestedKey.depth, NestedKey.depthAll, depth_nums]
theorem nk_keep {h h' : Heap} {k : NestedKey} {v : Value} (x : NestedIs h k v) (hk : ∀ c o, h.get? c = some o → h'.get? c = some o) : NestedIs h' k v := NestedIs.at (fun a o _ _ e _ => hk a o e) _ _ x
abbrev setZ (b : Bool) : Obj := { cls := .type "set", dict := none, data := .set #[] 0 (.fresh 0 0 b) }
/-- a set of one -/
structure OneAt (w : World) (h : Heap) (a b : Addr) : Prop where
  ex : ∃ (hv : Int) (ep : Nat) (t : SetTable), SetAt h a #[(hv, .ref b)] ep t ∧ t.fits 1 = true ∧ Ris t.place.toList ∧ (w.params.followText "set-order" = true ∨ t.led = true)
section
variable {P : Program} {w : World} {A : Around} {E : Value → Shared → Prop} {s : Shared}
theorem byv_num {h : Heap} {n : Nat} {i : Int} {v : Value} (x : NestedIs h (.num i) v) : hashByValue n v = pure true := by
  cases x <;> cases n <;> rfl
theorem byv_of {b : Addr} {o : Obj} {items : Array Value} {n z : Nat} {Q : Bool → Shared → Prop} (ho : s.heap.get? b = some o) (hc : o.cls = .type "tuple") (hd : o.data = .seq items z)
    (hv : ∀ v ∈ items.toList, ∀ Q' : Bool → Shared → Prop, Q' true s → wpAny (model P w) A (hashByValue n v) Q' E s) (h : Q true s) : wpAny (model P w) A (hashByValue (n + 1) (.ref b)) Q E s := by
  have ty : s.TypeIs (.ref b) "tuple" := ⟨o, ho, hc⟩
  unfold hashByValue
  refine wpAny_bind (wpAny_specialOf ty F.slot_tuple_hash.lookup ?_)
  show wpAny _ _ (seqItems? (.ref b) >>= fun _ => _) _ _ s
  refine wpAny_bind (wpAny_seqItems ho hd (wpAny_bind ?_))
  show wpAny _ _ (forIn items _ _) _ _ s
  rw [← Array.forIn_toList]
  refine wpAny_forIn_list _ (fun todo r s2 => r.1 = none ∧ s2 = s ∧ ∀ v ∈ todo, v ∈ items.toList) _ ?_ ?_ _ _ ⟨rfl, rfl, fun _ z => z⟩
  · rintro v todo r s2 ⟨_, rfl, sub⟩
    refine wpAny_bind (hv v (sub v List.mem_cons_self) _ ?_)
    simp only [Bool.not_true, Bool.false_eq_true, if_false]
    exact wpAny_pure ⟨rfl, rfl, fun u z => sub u (List.mem_cons_of_mem _ z)⟩
  · rintro ⟨r1, r2⟩ s2 ⟨e, rfl, _⟩
    simp only at e
    subst e
    exact wpAny_pure h
theorem all_nums {h : Heap} : ∀ {r : List Int} {vs : List Value}, NestedAll h (r.map NestedKey.num) vs → ∀ v ∈ vs, ∃ i, NestedIs h (.num i) v
  | [], _, x, v, hv => by cases x; cases hv
  | i :: r, _, x, v, hv => by
    cases x with
    | cons x1 x2 =>
      rcases List.mem_cons.mp hv with e | hv
      · exact ⟨i, by rw [e]; exact x1⟩
      · exact all_nums x2 v hv
theorem byv_pk {r : List Int} {m : Int} {b : Addr} {Q : Bool → Shared → Prop} (x : NestedIs s.heap (pk r m) (.ref b)) (h : Q true s) : wpAny (model P w) A (hashByValue 8 (.ref b)) Q E s := by
  cases x with
  | tup ho hc hd hall =>
    refine byv_of ho hc hd (fun v hv Q' q => ?_) h
    generalize hL : _root_.Array.toList _ = L at hall hv
    cases hall with
    | cons x1 t1 =>
      cases t1 with
      | cons x2 t2 =>
        cases t2
        rcases List.mem_cons.mp hv with e | hv
        · rw [e]
          cases x1 with
          | tup ho1 hc1 hd1 hall1 =>
            refine byv_of ho1 hc1 hd1 (fun v1 hv1 Q1 q1 => ?_) q
            obtain ⟨i, xi⟩ := all_nums hall1 v1 hv1
            rw [byv_num xi]
            exact wpAny_pure q1
        · rw [List.mem_singleton.mp hv, byv_num x2]
          exact wpAny_pure q
theorem fresh_probe (b : Bool) (g : Nat → Int) (h : Int) : (SetTable.fresh 0 0 b).probe g h ((SetTable.fresh 0 0 b).probeStart h) = some (.empty (SetTable.bits h % 8) none) := rfl
theorem fresh_put (b : Bool) (j : Nat) : (SetTable.fresh 0 0 b).put j = ({ mask := 7, place := #[j], dummies := #[], finger := 0, led := b, moves := 0, plain := true }, 0) := by
  simp [SetTable.put, SetTable.fresh, SetTable.below, SetTable.below.go, SetTable.insertAt, SetTable.has]
theorem add_fresh {a b : Addr} {led : Bool} {r : List Int} {m hv : Int} (hl : w.params.followText "set-order" = true ∨ led = true) (ho : s.heap.get? a = some (setZ led)) (x : NestedIs s.heap (pk r m) (.ref b)) {Q : Bool → Shared → Prop}
    (hQ : ∀ h', Heap.SameBut a s.heap h' → OneAt w h' a b → Q true { s with heap := h' }) : wpAny (model P w) A (setAddHashed a (.ref b) hv) Q E s := by
  have fz : (SetTable.fresh 0 0 led).fits (#[] : Array (Int × Value)).size = true := rfl
  unfold setAddHashed
  refine wpAny_holding ?_
  rw [show (100000 : Nat) = 99999 + 1 from rfl, setAddHashedIn_succ]
  refine wpAny_bind (wpAny_setState_of ho rfl fz ?_)
  dsimp only
  refine wp_if_neg (by simp [byScan, Value.scannable]) ?_
  try refine wpAny_bind (wpAny_pure ?_)
  unfold setSearch
  rw [show (100000 : Nat) = 99999 + 1 from rfl, setSearchFrom_succ]
  refine wpAny_bind (wpAny_bind (wpAny_setState_of ho rfl fz ?_))
  dsimp only
  refine wp_if_neg (show ¬ (((7 : Nat) % 2 == 0) = true) by decide) ?_
  try refine wpAny_bind (wpAny_pure ?_)
  refine wpAny_pure ?_
  dsimp only
  generalize (Option.getD (none : Option SetTable.Probe) ((SetTable.fresh 0 0 led).probeStart hv)).j = j
  refine wpAny_bind (wpAny_setState_of ho rfl fz ?_)
  dsimp only
  rw [fresh_put]
  dsimp only
  first
    | (refine wpAny_bind ?_; refine wp_if_pos rfl ?_; refine byv_pk x ?_)
    | refine wp_if_pos rfl (wpAny_bind (byv_pk x ?_))
  simp only [if_true]
  refine wpAny_bind (wpAny_storeSet_of ho rfl ?_ (show 1 ≤ sizeLine by rw [sizeLine_eq]; decide))
  have sb : Heap.SameBut a s.heap (s.heap.update a (Obj.putSet (SetTable.insertAt #[] 0 (hv, Value.ref b)) { mask := 7, place := #[j], dummies := #[], finger := 0, led := led, moves := 0, plain := true })) := Heap.SameBut.update ..
  have ho1 := store_at (es' := SetTable.insertAt #[] 0 (hv, Value.ref b)) (t' := { mask := 7, place := #[j], dummies := #[], finger := 0, led := led, moves := 0, plain := true }) ho rfl
  generalize s.heap.update a _ = h1 at sb ho1 ⊢
  have nf : ¬ ((!false && ({ mask := 7, place := #[j], dummies := #[], finger := 0, led := led, moves := 0, plain := true } : SetTable).tooFull) = true) := by
    simp [SetTable.tooFull, SetTable.fill]
  first
    | refine wp_if_neg nf ?_
    | (refine wpAny_bind ?_; refine wp_if_neg nf ?_; refine wpAny_pure ?_)
  refine wpAny_pure (hQ h1 sb ⟨hv, 1, _, ⟨_, ho1, rfl, rfl⟩, rfl, List.pairwise_singleton _ _, hl⟩)
theorem upd_one {S l b I : Addr} {ld : Bool} {r : List Int} {m : Int} {R : Result → Shared → Prop} (hh : A.handled = none) (led : w.params.followText "set-order" = true ∨ ld = true) (hli : l ≠ I) (hSl : S ≠ l) (hSI : S ≠ I) (hbI : b ≠ I) (hu : A.units + 20 < cLine)
    (st : s.heap.IsListIter I l 0 ∧ s.heap.IsList l #[Value.ref b]) (ho : s.heap.get? S = some (setZ ld)) (x : NestedIs s.heap (pk r m) (.ref b)) (hI : ∀ vs n o, s.heap.get? I = some o → o.data ≠ .seq vs n)
    (hR : ∀ h' tk, OneAt w h' S b → (∀ c o, c ≠ S → c ≠ I → s.heap.get? c = some o → h'.get? c = some o) → R (.ok (.ret .none)) { s with heap := h', toks := tk }) :
    codeAny (model P w) A (.builtin "set.update.loop" ⟨[.ref S, .ref I], []⟩) R s := by
  have W := Walks.list (prog := P) (w := w) (A := A.in1) (by simp [hh]) I l hli #[Value.ref b]
  refine codeAny_builtin F.entry_set_update_loop ?_
  rw [Around.under_plainId F.plain_set_update_loop _]
  show wpAny _ A.in1 (pyNext (.ref I) >>= fun _ => _) _ _ s
  refine wpAny_bind (W.item 0 s _ _ (show 0 < 1 by decide) st fun v h1 t1 hv st1 k1 => ?_)
  have ev : v = .ref b := (Option.some.inj hv).symm
  subst ev
  have ho1 : h1.get? S = some (setZ ld) := k1 S _ (fun z => hSI (List.mem_singleton.mp z)) ho
  have x1 : NestedIs h1 (pk r m) (.ref b) := NestedIs.at (fun c o vs n e d => k1 c o (fun z => hI vs n o (by rw [← List.mem_singleton.mp z]; exact e) d) e) _ _ x
  show wpAny _ A.in1 (holding [Value.ref b] (setAdd S (.ref b)) >>= fun _ => _) _ _ _
  refine wpAny_bind (wpAny_holding ?_)
  unfold setAdd
  refine wpAny_holding (wpAny_bind (pyHash_key (pk r m) _ _ _ _ x1 (by have := depth_pk r m; rw [Around.in1_units]; omega) ?_))
  refine add_fresh (r := r) (m := m) led ho1 x1 fun h2 sb2 on2 => ?_
  have st2 : h2.IsListIter I l 1 ∧ h2.IsList l #[Value.ref b] := W.frame 1 h1 h2 st1 fun c hc o e => by
    rw [sb2.2 c (fun z => by
      rcases List.mem_cons.mp hc with q | q
      · exact hSI (z.symm.trans q)
      · exact hSl (z.symm.trans (List.mem_singleton.mp q)))]
    exact e
  refine wpAny_pure ⟨plainId_quiet F.plain_set_update_loop _, codeAny_builtin F.entry_set_update_loop ?_⟩
  rw [Around.under_plainId F.plain_set_update_loop _]
  show wpAny _ A.in1 (pyNext (.ref I) >>= fun _ => _) _ _ _
  refine wpAny_bind (W.done _ _ _ st2 fun h3 t3 k3 => ?_)
  show wpAny _ A.in1 (ret Value.none) _ _ _
  refine wpAny_pure (hR h3 t3 ?_ fun c o n1 n2 e => ?_)
  · obtain ⟨hv, ep, t, ⟨o, g1, g2, g3⟩, g4⟩ := on2.ex
    exact ⟨hv, ep, t, ⟨o, k3 S o (fun z => hSI (List.mem_singleton.mp z)) g1, g2, g3⟩, g4⟩
  · exact k3 c o (fun z => n2 (List.mem_singleton.mp z)) ((sb2.2 c n1).trans (k1 c o (fun z => n2 (List.mem_singleton.mp z)) e))
/-- set(xs) of a list, the loop told -/
theorem called_set_gen {l : Addr} {items : Array Value} {Post : Heap → Prop} {Q : Value → Shared → Prop} (hl : s.heap.IsList l items)
    (loop : ∀ (A' : Around) (ld : Bool) (R : Result → Shared → Prop), A'.handled = A.handled → A'.units ≤ A.units + 4 → (w.params.followText "set-order" = true ∨ ld = true) → ld = (!w.params.followText "set-order") →
      (∀ h' tk, Post h' → (∀ c o, c ≠ s.heap.objs.size → c ≠ (s.heap.push (setZ ld)).objs.size → ((s.heap.push (setZ ld)).push { cls := .type "list_iterator", data := .fields #[.ref l, .int 0 0] }).get? c = some o → h'.get? c = some o) → R (.ok (.ret .none)) { s with heap := h', toks := tk }) →
      codeAny (model P w) A' (.builtin "set.update.loop" ⟨[.ref s.heap.objs.size, .ref (s.heap.push (setZ ld)).objs.size], []⟩) R { s with heap := (s.heap.push (setZ ld)).push { cls := .type "list_iterator", data := .fields #[.ref l, .int 0 0] } })
    (h : ∀ (h' : Heap) (tk : Nat), Post h' → (∀ c o, s.heap.get? c = some o → h'.get? c = some o) → Q (.ref s.heap.objs.size) { s with heap := h', toks := tk }) :
    wpAny (model P w) A (call (.type "set") [.ref l]) Q E s := by
  obtain ⟨_, _, mro⟩ := F.called_set.mro
  have made := F.called_set.made
  have sub := F.called_set.sub
  refine wpAny_call (codeAny_of_tree ?_)
  show wpAny _ _ (callAny (.type "set") _) _ _ _
  refine wpAny_pure ⟨Code.quiet_builtin _ (by decide +kernel), codeAny_builtin F.entry_type_call ?_⟩
  rw [Around.under_plain (weight_type_call_type "set" [.ref l] []) rfl]
  have nt := F.called_set.notType
  have cc := F.called_set.canCreate
  have tc := F.typeCall_set_1 (.ref l)
  repeat (any_goals (first | assumption | wp_step))
  refine codeAny_mono (code_set_led1 (.ref l) (E := E) (Q₁ := fun v s1 => v = .ref s.heap.objs.size ∧ s1 = { s with heap := s.heap.push (setZ (!w.params.followText "set-order")) }) ⟨rfl, rfl⟩) fun res s1 hres => ?_
  have led : w.params.followText "set-order" = true ∨ (!w.params.followText "set-order") = true := by
    cases w.params.followText "set-order"
    · exact .inr rfl
    · exact .inl rfl
  have eld : (!w.params.followText "set-order") = (!w.params.followText "set-order") := rfl
  generalize hgl : (!w.params.followText "set-order") = ld at hres led
  cases res with
  | error e => exact hres
  | ok fl =>
    cases fl with
    | ret v =>
      obtain ⟨rfl, rfl⟩ := hres
      have hS : (s.heap.push (setZ ld)).get? s.heap.objs.size = some (setZ ld) := Heap.get?_push_size _ rfl
      have hT : Shared.TypeIs { s with heap := s.heap.push (setZ ld) } (.ref s.heap.objs.size) "set" := ⟨_, hS, rfl⟩
      have li := F.called_set.init.lookup
      have bi := F.called_set.init.bind (.ref s.heap.objs.size)
      repeat (any_goals (first | assumption | wp_step))
      refine codeAny_mono (codeAny_call_builtin (R := wants (fun r s2 => r = .none ∧ ∃ h' tk, s2 = { s with heap := h', toks := tk } ∧ Post h' ∧ ∀ c o, s.heap.get? c = some o → h'.get? c = some o) E)
        F.called_set.init.plain F.entry_set_init (check_set_init_1 hT ?_)) fun r2 s2 hr2 => ?_
      · have hlS : l < s.heap.objs.size := by
          obtain ⟨_, q, _⟩ := hl
          exact Heap.lt_size q
        have hl1 : (s.heap.push (setZ ld)).IsList l items := hl.push _
        obtain ⟨⟨c1, d1, x1, y1⟩, ol, cl, nl, dl⟩ := id hl1
        simp only at cl dl
        subst cl; subst dl
        have s1' := F.sub_list_set
        have s2' := F.sub_list_frozenset
        have ne : (Value.type "list" == Value.type "dict") = false := by decide
        unfold Builtin.«set.__init__» noKeywords Builtin.Frozenset.updateFrom
        generalize hPI : pyIter = PI
        wp_walk
        subst hPI
        refine wpAny_pyIter_list hl1 ?_
        refine wpAny_bind (wpAny_runValue ?_)
        have sz : (s.heap.push (setZ ld)).objs.size = s.heap.objs.size + 1 := Heap.size_push ..
        have neI : l ≠ (s.heap.push (setZ ld)).objs.size := by rw [sz]; exact Nat.ne_of_lt (Nat.lt_succ_of_lt hlS)
        refine loop _ ld _ (by simp) (by simp only [Around.in1_units]; omega) led hgl.symm fun h' tk on k => ?_
        show wpAny _ _ _ _ _ _
        refine wpAny_pure ?_
        show wpAny _ _ (ret Value.none) _ _ _
        refine wpAny_pure ⟨rfl, h', tk, rfl, on, fun c o e => ?_⟩
        have hc : c < s.heap.objs.size := Heap.lt_size e
        exact k c o (Nat.ne_of_lt hc) (by rw [sz]; exact Nat.ne_of_lt (Nat.lt_succ_of_lt hc)) (Heap.get?_push_of_some _ (Heap.get?_push_of_some _ e))
      · cases r2 with
        | error e => exact hr2
        | ok fl2 =>
          cases fl2 with
          | ret u =>
            obtain ⟨rfl, h', tk, rfl, on, k⟩ := hr2
            repeat (any_goals (first | assumption | wp_step))
            exact h _ _ on k
          | _ => exact hr2.elim
    | _ => exact hres.elim
/-- set(xs) of a list of one -/
theorem called_set_one {l b : Addr} {r : List Int} {m : Int} {Q : Value → Shared → Prop} (hh : A.handled = none) (hl : s.heap.IsList l #[.ref b]) (x : NestedIs s.heap (pk r m) (.ref b)) (hu : A.units + 64 < cLine)
    (h : ∀ (h' : Heap) (tk : Nat), OneAt w h' s.heap.objs.size b → (∀ c o, s.heap.get? c = some o → h'.get? c = some o) → Q (.ref s.heap.objs.size) { s with heap := h', toks := tk }) :
    wpAny (model P w) A (call (.type "set") [.ref l]) Q E s := by
  refine called_set_gen (Post := fun h' => OneAt w h' s.heap.objs.size b) hl (fun A' ld R e1 e2 led _ hR => ?_) h
  have hlS : l < s.heap.objs.size := by
    obtain ⟨_, q, _⟩ := hl
    exact Heap.lt_size q
  have hS : (s.heap.push (setZ ld)).get? s.heap.objs.size = some (setZ ld) := Heap.get?_push_size _ rfl
  have sz : (s.heap.push (setZ ld)).objs.size = s.heap.objs.size + 1 := Heap.size_push ..
  have hb1 : b < s.heap.objs.size := by
    cases x with
    | tup q _ _ _ => exact Heap.lt_size q
  have xI : ((s.heap.push (setZ ld)).push { cls := .type "list_iterator", data := .fields #[.ref l, .int 0 0] }).get? (s.heap.push (setZ ld)).objs.size = some { cls := .type "list_iterator", data := .fields #[.ref l, .int 0 0] } := Heap.get?_push_size _ rfl
  refine upd_one (r := r) (m := m) (ld := ld) (by rw [e1]; exact hh) led (by rw [sz]; exact Nat.ne_of_lt (Nat.lt_succ_of_lt hlS)) (Nat.ne_of_gt hlS) (by rw [sz]; exact Nat.ne_of_lt (Nat.lt_succ_self _)) (by rw [sz]; exact Nat.ne_of_lt (Nat.lt_succ_of_lt hb1)) (by omega) ⟨⟨_, xI, rfl, rfl⟩, (hl.push _).push _⟩ (Heap.get?_push_of_some _ hS) (nk_keep x fun c o e => Heap.get?_push_of_some _ (Heap.get?_push_of_some _ e)) (fun vs n o e d => ?_) hR
  rw [xI] at e
  cases e
  cases d
/-- set(xs) of a list of ints -/
theorem called_set_ints {l : Addr} {items : Array Value} (ns : List Int) {Q : Value → Shared → Prop} (hh : A.handled = none) (hl : s.heap.IsList l items) (hit : IntsAre items.toList ns) (hb : ns.length + 1 < scanBound)
    (h : ∀ (h' : Heap) (tk : Nat), (∃ c, c ≤ ns.length ∧ SetR w h' s.heap.objs.size (fun j => decide (j ∈ ns)) c) → (∀ c o, s.heap.get? c = some o → h'.get? c = some o) → Q (.ref s.heap.objs.size) { s with heap := h', toks := tk }) :
    wpAny (model P w) A (call (.type "set") [.ref l]) Q E s := by
  refine called_set_gen (Post := fun h' => ∃ c, c ≤ ns.length ∧ SetR w h' s.heap.objs.size (fun j => decide (j ∈ ns)) c) hl (fun A' ld R e1 e2 led eld hR => ?_) h
  subst eld
  have len : items.size = ns.length := by
    have q := IntsAre.length hit
    rw [Array.length_toList] at q
    exact q
  have hlS : l < s.heap.objs.size := by
    obtain ⟨_, q, _⟩ := hl
    exact Heap.lt_size q
  generalize hld : (!w.params.followText "set-order") = ld at hR ⊢
  have hS : (s.heap.push (setZ ld)).get? s.heap.objs.size = some (setZ ld) := Heap.get?_push_size _ rfl
  have sz : (s.heap.push (setZ ld)).objs.size = s.heap.objs.size + 1 := Heap.size_push ..
  have W := (Walks.list (prog := P) (w := w) (A := A'.in1) (by simp [e1, hh]) (s.heap.push (setZ ld)).objs.size l (by rw [sz]; exact Nat.ne_of_lt (Nat.lt_succ_of_lt hlS)) items).toS
  refine set_update_ints W s.heap.objs.size ?_ ns len hb (fun i v hv => ?_) (items.size - 0) 0 _ (by omega) (Nat.zero_le _) ⟨⟨_, Heap.get?_push_size _ rfl, rfl, rfl⟩, (hl.push _).push _⟩ ⟨0, Nat.le_refl _, ?_⟩ fun s' c mv hc R' => ?_
  · rw [sz]
    simp only [List.mem_cons, List.not_mem_nil, or_false, not_or]
    exact ⟨Nat.ne_of_lt (Nat.lt_succ_self _), Nat.ne_of_gt hlS⟩
  · have hi : i < ns.length := by rw [← len]; exact (Array.getElem?_eq_some_iff.mp hv).1
    obtain ⟨t, e⟩ := PyProof.Rows.IntsAre.int_at hit i v (by rw [Array.getElem?_toList]; exact hv)
    refine ⟨ns[i], t, List.getElem?_eq_getElem hi, ?_⟩
    rw [e, List.getD_eq_getElem?_getD, List.getElem?_eq_getElem hi]
    rfl
  · refine setR_new_at ?_
    rw [hld]
    exact Heap.get?_push_of_some _ hS
  · obtain ⟨h2, g2, d2, t2, o2⟩ := s'
    have eg : g2 = s.gens := mv.gens
    have ed : d2 = s.drawn := mv.drawn
    have eo : o2 = s.os := mv.os
    subst eg; subst ed; subst eo
    refine hR h2 t2 ⟨c, by rw [← len]; exact hc, R'⟩ fun a o n1 n2 e => mv.heap a o ?_ e
    simp only [List.mem_cons, List.not_mem_nil, or_false, not_or]
    exact ⟨n1, n2⟩
/-- sorted(xs) of a set of one -/
theorem called_sorted_one {a b : Addr} {Q : Value → Shared → Prop} (hh : A.handled = none) (on : OneAt w s.heap a b)
    (h : ∀ s' p (c : Nat), (∀ b o, s.heap.get? b = some o → s'.heap.get? b = some o) → s'.gens = s.gens → s'.os = s.os → s.heap.objs.size ≤ p → s'.heap.get? p = some (seqObj "list" #[Value.ref b] c) → Q (.ref p) s') :
    wpAny (model P w) A (call (.builtin "sorted") [.ref a]) Q E s := by
  obtain ⟨hv, ep, t, sa, fz, ris, led⟩ := on.ex
  refine Calls.call_function_entry kind_sorted plain_sorted entry_sorted (args_sorted1 _) ?_
  unfold Builtin.«sorted»
  refine wpAny_bind (m := checkCount "sorted" 1 1 _) (wpAny_pure (wpAny_bind ?_))
  refine collect_set (A := A.in1) hh sa fz (show 1 < scanBound by decide) ris led fun s1 vs k1 hz g1 o1 pm => ?_
  have ev : vs = [Value.ref b] := List.perm_singleton.mp pm
  subst ev
  refine wpAny_bind (wpAny_newList ?_ (show 1 ≤ sizeLine by rw [sizeLine_eq]; decide))
  have hoL : (s1.heap.push (seqObj "list" [Value.ref b].toArray 0)).get? s1.heap.objs.size = some (seqObj "list" [Value.ref b].toArray 0) := Heap.get?_push_size _ rfl
  refine wpAny_bind (wpAny_holding (wpAny_call_entry slot_list_sort ⟨_, hoL, rfl⟩ entry_list_sort (SK.plain_sort (r := fun _ => 0) hoL (show 1 < 64 by decide) (fun z => absurd z (show ¬ 2 ≤ 1 by decide)) fun ps out h1 h2 h3 => ⟨_, rfl, ?_⟩) (args_list_sort _)))
  have eo : out.toList = [Value.ref b] := by
    rw [h1]
    have q := h2.map Prod.snd
    rw [show List.map Prod.snd (List.zip [Value.ref b] [Value.ref b]) = [Value.ref b] from rfl] at q
    exact List.perm_singleton.mp q
  have eo2 : out = #[Value.ref b] := by
    rw [← Array.toArray_toList (xs := out), eo]
  subst eo2
  obtain ⟨c, hc⟩ := sortedHeap_at (vs := [Value.ref b]) (out := #[Value.ref b]) hoL
  refine wpAny_pure ⟨_, rfl, h _ s1.heap.objs.size c (fun d u e => ?_) g1 o1 hz hc⟩
  have q := k1 d u e
  have lt := Heap.lt_size q
  show (sortedHeap _ s1.heap.objs.size _ _).get? d = some u
  rw [sortedHeap_old (Nat.ne_of_lt lt) (by rw [size_push']; exact Nat.lt_succ_of_lt lt)]
  exact Heap.get?_push_of_some _ q
end
def OneO (w : World) (a b : Addr) : HO := .ext fun h => OneAt w h a b
theorem oneO_new {P : Program} {w : World} {H : Hp} {h : Heap} {a b : Addr} (on : OneAt w h a b) : ObjOk P w H h a (OneO w a b) := by
  have ⟨hv, ep, t, ⟨o, g1, g2⟩, g⟩ := on.ex
  refine ⟨on, ⟨o, g1⟩, fun h1 h2 p k => ?_⟩
  have ⟨hv, ep, t, ⟨o, g1, g2⟩, g⟩ := OneAt.ex p
  exact ⟨hv, ep, t, ⟨o, k o g1, g2⟩, g⟩
section
variable {X : Cx}
theorem nums_of {h : Heap} : ∀ {r : List Int} {us : List Value}, Vals (r.map V.int) us → NestedAll h (r.map NestedKey.num) us
  | [], _, .nil => .nil
  | n :: r, _, .cons x t => by
    obtain ⟨tk, rfl⟩ := x
    exact .cons (.int n tk) (nums_of t)
theorem pk_of {pins : List (Addr × Obj)} {σ : L2.St} {H : Hp} {s : Shared} {b c : Addr} {r : List Int} {m : Int} (I : Inv X pins σ H s) (h1 : SqT X.K H b [.ref c, .int m]) (h2 : SqT X.K H c (r.map V.int)) : NestedIs s.heap (pk r m) (.ref b) := by
  obtain ⟨its, rv, ⟨o, ho, hc, n, hd⟩, _⟩ := I.tuple h1
  obtain ⟨its2, rv2, ⟨o2, ho2, hc2, n2, hd2⟩, _⟩ := I.tuple h2
  refine .tup ho hc hd ?_
  cases rv with
  | cons a1 t1 =>
    cases t1 with
    | cons a2 t2 =>
      cases t2
      cases a1
      obtain ⟨tk, rfl⟩ := a2
      exact .cons (.tup ho2 hc2 hd2 (by simpa using nums_of rv2)) (.cons (.int m tk) .nil)
/-- set(xs), xs a list of one -/
def rSetOne (K : PySem.W.Frag) (w : World) : List V → Hp → VK → Prop := fun xs H Q => ∃ (l b c : Addr) (r : List Int) (m : Int), xs = [.ref l] ∧ SqL K H l [.ref b] ∧ SqT K H b [.ref c, .int m] ∧ SqT K H c (r.map V.int) ∧ ∀ a, H a = none → Q (.ref a) (upd H a (OneO w a b))
theorem cr_setOne (hc : X.calm = true) (hu : X.A.units + 64 < cLine) : CallR X (.type "set") (rSetOne X.K X.w) := by
  intro pins s σ H xs us Q I r h
  obtain ⟨l, b, c, row, m, rfl, hl, h1, h2, q⟩ := h
  rw [Vals.ref1 r]
  obtain ⟨its, rv, pl, hz⟩ := I.list hl
  have e : its = [Value.ref b] := by
    cases rv with
    | cons a1 t1 =>
      cases t1
      cases a1
      rfl
  subst e
  refine called_set_one (P := X.prog) (w := X.w) (r := row) (m := m) (I.ok.hd hc) pl.isList (pk_of I h1 h2) hu fun h' tk on k => ?_
  exact ⟨.ref s.heap.objs.size, upd H s.heap.objs.size (OneO X.w s.heap.objs.size b), I.laid (t' := tk) k (Nat.le_refl _) (oneO_new on), rfl, q _ (I.hok.fresh (Nat.le_refl _))⟩
def rSortOne (w : World) : List V → Hp → VK → Prop := fun xs H Q => ∃ a b : Addr, xs = [.ref a] ∧ H a = some (OneO w a b) ∧ ∀ p, H p = none → Q (.ref p) (upd H p (.lst [.ref b]))
theorem cr_sortOne (hc : X.calm = true) : CallR X (.builtin "sorted") (rSortOne X.w) := by
  intro pins s σ H xs us Q I r h
  obtain ⟨a, b, rfl, ha, q⟩ := h
  rw [Vals.ref1 r]
  have on : OneAt X.w s.heap a b := (I.hok a _ ha).1
  refine called_sorted_one (P := X.prog) (w := X.w) (I.ok.hd hc) on fun s' p c k g o hp hg => ?_
  have hn : H p = none := I.hok.fresh hp
  have hv : Vals [V.ref b] [Value.ref b] := .cons rfl .nil
  have J : Inv X pins σ (upd H p (.lst [.ref b])) { s with heap := s'.heap, gens := s'.gens, drawn := s'.drawn, toks := s'.toks } :=
    I.call (ch := []) (Un.laid k hp hn) (I.hok.laid k hp ⟨show 1 ≤ sizeLine by rw [sizeLine_eq]; decide, [Value.ref b], c, hv, hg⟩) (by rw [g]; exact I.bare) (fun _ z => nomatch z)
  have e : s' = { s with heap := s'.heap, gens := s'.gens, drawn := s'.drawn, toks := s'.toks } := by
    cases s'
    cases s
    cases o
    rfl
  rw [e]
  exact ⟨.ref p, _, J, rfl, q p hn⟩
end
section
variable {X : Cx}
def rSetIL (K : PySem.W.Frag) (w : World) : List V → Hp → VK → Prop := fun xs H Q => ∃ (l : Addr) (ns : List Int), xs = [.ref l] ∧ SqL K H l (ns.map V.int) ∧ ns.length < 64 ∧ ∀ a c, H a = none → c ≤ ns.length → Q (.ref a) (upd H a (SetO w a (fun j => decide (j ∈ ns)) c))
theorem cr_setIL (hc : X.calm = true) : CallR X (.type "set") (rSetIL X.K X.w) := by
  intro pins s σ H xs us Q I r h
  obtain ⟨l, ns, rfl, hl, h64, q⟩ := h
  rw [Vals.ref1 r]
  obtain ⟨its, rv, pl, hz⟩ := I.list hl
  refine called_set_ints (P := X.prog) (w := X.w) ns (I.ok.hd hc) pl.isList (by simpa using rv.ints) (show ns.length + 1 < 4096 by omega) fun h' tk ⟨c, hcn, R⟩ k => ?_
  exact ⟨.ref s.heap.objs.size, upd H s.heap.objs.size (SetO X.w s.heap.objs.size (fun j => decide (j ∈ ns)) c), I.laid (t' := tk) k (Nat.le_refl _) (setO_new R), rfl, q _ c (I.hok.fresh (Nat.le_refl _)) hcn⟩
end
/-! as data -/
section
variable {K : PySem.W.Frag} {w : World} {Γ : List Sl} {te : TE}
theorem en_sortOne {r : List Int} {m : Int} (h : EvD K te Γ (.list [.tuple [.tuple (r.map PyData.int), .int m]])) : EvN K (tCB (rSortOne w) (tCons (tCB (rSetOne K w) (tCons te tNil)) tNil)) Γ [.tuple [.tuple (r.map PyData.int), .int m]] := fun hh H0 σ H x Q q =>
  h hh H0 σ H x _ fun v H1 H' a e => by
    obtain ⟨l, xs, rfl, hs, ha⟩ := dp_lst e
    obtain ⟨v1, rfl, e1⟩ := dps_one ha
    obtain ⟨b, ys, rfl, hs1, ha1⟩ := dp_tup e1
    obtain ⟨v2, v3, rfl, e2, e3⟩ := dps_two ha1
    obtain ⟨c, zs, rfl, hs2, ha2⟩ := dp_tup e2
    rw [dp_int e3] at hs1
    rw [dps_intsV ha2] at hs2
    refine ⟨l, b, c, r, m, rfl, a.i.seq hs, same_t a.i hs1, same_t a.i hs2, fun s hn => ?_⟩
    have a2 : Adv H0 H (upd H1 s (OneO w s b)) (upd H' s (OneO w s b)) := a.trans (Adv.new a.i hn)
    refine ⟨s, b, rfl, upd_same, fun p hp => q p _ _ _ a2 hp ?_⟩
    exact .cons (dp_mono (same_new (a.i.free hn)) _ _ e1) .nil
end
end Evr
set_option Elab.async false
set_option linter.all false
set_option maxRecDepth 100000
set_option maxHeartbeats 4000000
/-! Dicts by tuples of ints. -/
namespace Evr
open PySem PySem.Spec PyProof.Rows L2
abbrev DRow := List Int × Addr × Addr
abbrev rawR (rows : List DRow) : List (List Int × Addr × Value) := rows.map fun x => (x.1, x.2.1, Value.ref x.2.2)
structure DtR (P : Program) (w : World) (h : Heap) (d : Addr) (rows : List DRow) : Prop where
  low : (d == sysModules) = false
  nd : (rows.map (·.1)).Nodup
  ex : ∃ es ep, DT.Raw h d es ep ∧ es.toList = (rawR rows).map (entryOfKey (TK P w))
def DtO (P : Program) (w : World) (d : Addr) (rows : List DRow) : HO := .ext fun h => DtR P w h d rows
section
variable {P : Program} {w : World}
theorem dtO_ok {H : Hp} {h : Heap} {d : Addr} {rows : List DRow} (r : DtR P w h d rows) : ObjOk P w H h d (DtO P w d rows) := by
  have ⟨es, ep, ⟨o, ho, g1⟩, g2⟩ := r.ex
  refine ⟨r, ⟨o, ho⟩, fun h1 h2 p k => ?_⟩
  have ⟨es, ep, ⟨o, ho, g1⟩, g2⟩ := DtR.ex p
  exact ⟨DtR.low p, DtR.nd p, es, ep, ⟨o, k o ho, g1⟩, g2⟩
theorem rawR_keys (rows : List DRow) : (rawR rows).map (·.1) = rows.map (·.1) := by
  rw [List.map_map]
  rfl
theorem rawR_at (k : List Int) : ∀ rows : List DRow, (atKey (rawR rows) k).map (·.2) = (rows.find? fun r => decide (r.1 = k)).map fun r => Value.ref r.2.2
  | [] => rfl
  | r :: rows => by
    have ih := rawR_at k rows
    unfold atKey at ih ⊢
    rw [show rawR (r :: rows) = (r.1, r.2.1, Value.ref r.2.2) :: rawR rows from rfl, List.find?_cons, List.find?_cons]
    by_cases h : r.1 = k
    · rw [show decide ((r.1, r.2.1, Value.ref r.2.2).1 = k) = true from decide_eq_true h]
      rfl
    · rw [show decide ((r.1, r.2.1, Value.ref r.2.2).1 = k) = false from decide_eq_false h]
      exact ih
theorem dt_get {h : Heap} {d : Addr} {rows : List DRow} {es : Array DictEntry} (g : es.toList = (rawR rows).map (entryOfKey (TK P w))) {i : Nat} (hi : i < es.size) {r : DRow} (hr : rows[i]? = some r) : es[i].key = .ref r.2.1 ∧ es[i].val = .ref r.2.2 := by
  have e1 : es.toList[i]? = some es[i] := by rw [Array.getElem?_toList]; exact Array.getElem?_eq_getElem hi
  rw [g, List.getElem?_map, List.getElem?_map, hr] at e1
  have e2 := Option.some.inj e1
  rw [← e2]
  exact ⟨rfl, rfl⟩
theorem dt_size {rows : List DRow} {es : Array DictEntry} (g : es.toList = (rawR rows).map (entryOfKey (TK P w))) : es.size = rows.length := by
  rw [← Array.length_toList, g, List.length_map, List.length_map]
/-- .. grown by one row -/
theorem dt_more {h : Heap} {d kb c : Addr} {rows : List DRow} {k : List Int} (lo : (d == sysModules) = false) (x : h.DictOfH (TK P w) d (rawR rows ++ [(k, kb, Value.ref c)])) : DtR P w h d (rows ++ [(k, kb, c)]) := by
  obtain ⟨o, es, ep, g1, g2, g3, g4, _, g6⟩ := x
  have e : rawR (rows ++ [(k, kb, c)]) = rawR rows ++ [(k, kb, Value.ref c)] := List.map_append
  refine ⟨lo, ?_, es, ep, ⟨o, g1, g2, g3⟩, by rw [e]; exact g4⟩
  rw [← rawR_keys, e]
  exact g6
end
section
variable {X : Cx}
theorem dt_full {pins : List (Addr × Obj)} {σ : L2.St} {H : Hp} {s : Shared} {d : Addr} {rows : List DRow} (I : Inv X pins σ H s) (hd : Rd H d (DtO X.prog X.w d rows)) (hk : ∀ r ∈ rows, SqT X.K H r.2.1 (r.1.map V.int)) : s.heap.DictOfH (TK X.prog X.w) d (rawR rows) ∧ (d == sysModules) = false := by
  have r : DtR X.prog X.w s.heap d rows := (Rd.ok hd I.hok).1
  obtain ⟨es, ep, ⟨o, ho, g1, g2⟩, g3⟩ := r.ex
  refine ⟨⟨o, es, ep, ho, g1, g2, g3, fun y hy => ?_, by rw [rawR_keys]; exact r.nd⟩, r.low⟩
  obtain ⟨z, hz, rfl⟩ := List.mem_map.mp hy
  exact I.isT (hk z hz)
/-! d.get(k, x) -/
def tDGetR (P : Program) (w : World) (K : PySem.W.Frag) (td ty tx : TE) : TE := fun σ H Q => td σ H fun x H1 => ∃ (d : Addr) (rows : List DRow), x = .ref d ∧ Rd H1 d (DtO P w d rows) ∧ ty σ H1 fun y H2 => tx σ H2 fun z H3 => ∃ (kb : Addr) (k : List Int), y = .ref kb ∧ Rd H3 d (DtO P w d rows) ∧
  SqT K H3 kb (k.map V.int) ∧ (∀ r ∈ rows, SqT K H3 r.2.1 (r.1.map V.int)) ∧ Q (((rows.find? fun r => decide (r.1 = k)).map fun r => V.ref r.2.2).getD z) H3
variable {o e f i : Expr} {td ty tx te : TE} {apos cpos : Pos}
theorem pe_dgetR (hu : X.A.units + 1 < cLine) (ho : PE X o td) (he : PE X e ty) (hf : PE X f tx) (m : M2 X o "get" apos e f cpos) : PE X (.Call (.Attribute o "get" apos) [e, f] [] cpos) (tDGetR X.prog X.w X.K td ty tx) := by
  refine ⟨fun pins s σ H Q I h => wpAny_Call_method m.base m.few m.line PySem.F.plainAttrs_dict PySem.F.slot_dict_get PySem.F.type_dict_get (thn (ho.run pins s σ H _ I h) fun u s1 ⟨x, H1, I1, rx, d, rows, ex, hd, q1⟩ => ?_)⟩
  subst ex
  obtain rfl : u = Value.ref d := rx
  have r : DtR X.prog X.w s1.heap d rows := (Rd.ok hd I1.hok).1
  obtain ⟨es, ep, ⟨ob, ho1, g1, _⟩, _⟩ := r.ex
  refine ⟨⟨ob, ho1, g1.1⟩, fun b eb => by cases eb; exact ⟨ob, ho1, g1.2.1⟩, ?_⟩
  rw [m.trees]
  refine Calls.callWith_builtin rfl (Calls.evalArgs_plain (Calls.spliced_cons (thn (he.run pins s1 σ H1 _ I1 q1) fun kv s2 ⟨y, H2, I2, ry, q2⟩ => Calls.spliced_cons (thn (hf.run pins s2 σ H2 _ I2 q2) fun dv s3 ⟨z, H3, I3, rz, kb, k, ey, hd3, hkb, hrows, q3⟩ => Calls.spliced_nil ?_))))
  subst ey
  obtain rfl : kv = Value.ref kb := ry
  obtain ⟨full, lo⟩ := dt_full I3 hd3 hrows
  refine call_meetsIn F.slot_dict_get full.typeIs F.entry_dict_get (F.args_dict_get_3 _ _ _) (meetsH_dict_get_default (TK X.prog X.w) d kb lo dv) ⟨hu, k, _, I3.isT hkb, full, ?_⟩
  rw [rawR_at]
  refine ⟨_, H3, I3.tok _, ?_, q3⟩
  cases rows.find? fun r => decide (r.1 = k) with
  | none => exact rz
  | some r => rfl
/-! k not in d -/
def tDNotInR (P : Program) (w : World) (K : PySem.W.Frag) (ty td : TE) : TE := fun σ H Q => ty σ H fun y H1 => td σ H1 fun x H2 => ∃ (d kb : Addr) (rows : List DRow) (k : List Int), x = .ref d ∧ y = .ref kb ∧ Rd H2 d (DtO P w d rows) ∧ SqT K H2 kb (k.map V.int) ∧ (∀ r ∈ rows, SqT K H2 r.2.1 (r.1.map V.int)) ∧
  Q (.bl (!(rows.find? fun r => decide (r.1 = k)).isSome)) H2
theorem pc_dnotinR (hu : X.A.units + 1 < cLine) (hi : PE X i ty) (ho : PE X o td) : PC X .NotIn i o (tDNotInR X.prog X.w X.K ty td) := by
  refine ⟨fun pins s σ H Q I h => thn (hi.run pins s σ H _ I h) fun kv s1 ⟨y, H1, I1, ry, q1⟩ => thn (ho.run pins s1 σ H1 _ I1 q1) fun u s2 ⟨x, H2, I2, rx, d, kb, rows, k, ex, ey, hd, hkb, hrows, q2⟩ => ?_⟩
  subst ex ey
  obtain rfl : u = Value.ref d := rx
  obtain rfl : kv = Value.ref kb := ry
  obtain ⟨full, lo⟩ := dt_full I2 hd hrows
  refine notIn_keyed (knd := TK X.prog X.w) (kvs := pairsH (rawR rows)) (k := k) hu (I2.isT hkb) lo ⟨_, full, rfl⟩ ?_
  rw [valueAt_pairsH, rawR_at, Option.isSome_map]
  exact ⟨.bl _, H2, I2.tok _, rfl, q2⟩
/-! d.items(), the dict locked -/
def ItR (P : Program) (w : World) (d : Addr) (od : Obj) (rows : List DRow) : It where
  go := fun i H => H d = some (.frz od (DtO P w d rows)) ∧ i < rows.length
  yld := fun i H x H' => ∃ T r, rows[i]? = some r ∧ x = .ref T ∧ H T = none ∧ H' = upd H T (.tup [.ref r.2.1, .ref r.2.2])
  stop := fun i H => H d = some (.frz od (DtO P w d rows)) ∧ rows.length ≤ i
/-- what a locked one is -/
theorem dt_frz {pins : List (Addr × Obj)} {σ : L2.St} {H : Hp} {s : Shared} {d : Addr} {od : Obj} {rows : List DRow} {es : Array DictEntry} {ep : Nat} (I : Inv X pins σ H s) (hd : H d = some (.frz od (DtO X.prog X.w d rows))) (hod : od.data = .dict es ep) :
    DT.Raw s.heap d es ep ∧ es.toList = (rawR rows).map (entryOfKey (TK X.prog X.w)) ∧ (d == sysModules) = false := by
  obtain ⟨h1, h2⟩ := I.hok d _ hd
  have r : DtR X.prog X.w s.heap d rows := h2.1
  obtain ⟨es', ep', ⟨o, g1, g2, g3⟩, g4⟩ := r.ex
  rw [h1] at g1
  cases g1
  rw [hod] at g3
  cases g3
  exact ⟨⟨od, h1, g2, hod⟩, g4, r.low⟩
theorem turnR {elts : List Expr} {kk : Nat} {tpos : Pos} {P : Program} {w : World} {K : PySem.W.Frag} {d it : Addr} {od : Obj} {rows : List DRow} {es : Array DictEntry} {ep : Nat} (hod : od.data = .dict es ep) :
    Turn P w K (.Tuple elts kk tpos) (ItR P w d od rows) [it] it (fun i h => ∃ ok ov, IsItemIter h it d i es.size ep ok ov) where
  mem := List.mem_cons_self
  obj := fun i h st b hb => by
    obtain ⟨_, _, e⟩ := st
    rw [List.mem_singleton.mp hb]
    exact ⟨_, e, fun v q => nomatch q⟩
  keep := fun i h h' st k => by
    obtain ⟨a, b, e⟩ := st
    exact ⟨a, b, k it List.mem_cons_self _ e⟩
  item := by
    intro X hP hw hK hcl i pins s σ H E I hf st hg
    subst hP hw hK
    obtain ⟨hd, hi⟩ := hg
    obtain ⟨raw, g, low⟩ := dt_frz I hd hod
    obtain ⟨a, b, e⟩ := st
    have hlt : it < s.heap.objs.size := Heap.lt_size e
    have hie : i < es.size := by rw [dt_size g]; exact hi
    have hr : rows[i]? = some rows[i] := List.getElem?_eq_getElem hi
    obtain ⟨e1, e2⟩ := dt_get (h := s.heap) (d := d) g hie hr
    refine DT.nextI e raw hie fun h1 out tup sz k1 => ⟨_, rfl, wpAny_letOwnedTupleGo_items (s := { s with heap := h1 }) out fun h2 back sb => ?_⟩
    rw [e1, e2] at tup
    have tup2 : h2.get? s.heap.objs.size = some { cls := .type "tuple", data := .seq #[Value.ref (rows[i]).2.1, Value.ref (rows[i]).2.2] } := (sb.2 _ (Nat.ne_of_gt hlt)).trans tup
    have fresh : ObjOk X.prog X.w (upd H s.heap.objs.size (.tup [.ref (rows[i]).2.1, .ref (rows[i]).2.2])) h2 s.heap.objs.size (.tup [.ref (rows[i]).2.1, .ref (rows[i]).2.2]) :=
      ⟨by show 2 ≤ sizeLine; decide, [Value.ref (rows[i]).2.1, Value.ref (rows[i]).2.2], .cons rfl (.cons rfl .nil), ⟨_, tup2, rfl, _, rfl⟩⟩
    have J := I.turnedNew (t' := s.toks) (h' := h2) (ch := [it]) (fun b ob hb q => (sb.2 b (fun z => hb (by rw [z]; exact List.mem_cons_self))).trans (k1 b ob (fun z => hb (by rw [z]; exact List.mem_cons_self)) q)) hf (Nat.le_refl _) fresh
    refine ⟨.ref s.heap.objs.size, _, J, rfl, ⟨_, rows[i], hr, rfl, I.hok.fresh (Nat.le_refl _), rfl⟩, ⟨_, _, back⟩, fun b hb => ?_⟩
    rw [List.mem_singleton.mp hb, upd_ne (Nat.ne_of_lt hlt)]
    exact (hf it List.mem_cons_self).1
  done := by
    intro X hP hw hK hcl i pins s σ H E I hf st hg
    subst hP hw hK
    obtain ⟨hd, hi⟩ := hg
    obtain ⟨raw, g, low⟩ := dt_frz I hd hod
    obtain ⟨a, b, e⟩ := st
    obtain ⟨f0, f1, f2, f3, f4, f5⟩ := hf it List.mem_cons_self
    exact DT.endI (I.ok.hd hcl) e raw (by rw [dt_size g]; exact hi) fun h1 k1 => ⟨rfl, I.turned (t' := s.toks) (fun b ob hb q => k1 b ob hb q) f0 f1 f3 f4 f5⟩
  self := fun A i s Q E st h => let ⟨_, _, e⟩ := st; PySem.W.kcp_self e h
def iItR (P : Program) (w : World) (td : TE) : TI := fun σ H R => td σ H fun x H1 => ∃ (d : Addr) (od : Obj) (rows : List DRow), x = .ref d ∧ H1 d = some (.frz od (DtO P w d rows)) ∧ R (ItR P w d od rows) H1
theorem pi_itR {elts : List Expr} {kk : Nat} {tpos : Pos} (he : PE X e td) (hbase : attributeBase e "items" X.env (eval e X.env) = eval e X.env := by rfl) (hline : (apos.endLine == cpos.line) = true := by rfl) :
    PI X (.Tuple elts kk tpos) (.Call (.Attribute e "items" apos) [] [] cpos) (iItR X.prog X.w td) := by
  refine ⟨fun pins s σ H R I h => wpAny_Call_method (T := "dict") (id := "dict.items") hbase rfl hline F.plainAttrs_dict F.slot_dict_items F.type_dict_items (thn (he.run pins s σ H _ I h) fun u s1 ⟨x, H1, I1, rx, d, od, rows, ex, hd, q⟩ => ?_)⟩
  subst ex
  obtain rfl : u = Value.ref d := rx
  obtain ⟨h1, h2⟩ := I1.hok d _ hd
  have r : DtR X.prog X.w s1.heap d rows := h2.1
  obtain ⟨es, ep, ⟨o, g1, g2, g3⟩, g4⟩ := r.ex
  have eo : o = od := Option.some.inj (g1.symm.trans h1)
  subst eo
  refine ⟨⟨o, g1, g2.1⟩, fun b eb => by cases eb; exact ⟨o, g1, g2.2.1⟩, ?_⟩
  have I2 : Inv X pins σ H1 { s1 with heap := s1.heap.push { cls := .type "dict_items", data := .fields #[.ref d] } } := I1.kept (t' := s1.toks) fun b ob q => Heap.get?_push_of_some _ q
  show wpAny _ _ (callWith cpos (.builtin "dict.items") [.ref d] [] []) _ X.xe s1
  refine method_meetsIn F.slot_dict_items F.entry_dict_items rfl (PySem.evalArgs_none ⟨rfl, ⟨o, g1, g2.1⟩, F.args_dict_items_1 _, _, DT.meetsItems (es := es) (ep := ep) r.low, ⟨o, g1, g2, g3⟩, ?_⟩)
  refine DT.iterI (d := d) (es := es) (ep := ep) ⟨_, Heap.get?_push_size _ rfl, rfl, rfl⟩ ⟨o, Heap.get?_push_of_some _ g1, g2, g3⟩ (pi_one (tk := s1.toks) I2 _ (turnR (es := es) (ep := ep) g3) ⟨.none, .none, Heap.get?_push_size _ rfl⟩ q)
end
end Evr
set_option Elab.async false
set_option linter.all false
set_option maxRecDepth 100000
set_option maxHeartbeats 4000000
/-! {k: v for .. in ..}, the keys tuples of ints, the values objects; the dict is handed on locked. -/
namespace Evr
open PySem PySem.Spec PyProof.Rows L2
def tDcR (P : Program) (w : World) (K : PySem.W.Frag) (wi : TI) (g : TG) (tk tv : TE) (vs : List Nat) : TE := fun σ H Q => wi σ H fun J H1 => ∀ D, H1 D = none → ∃ W : Nat → Nat → Hp → Prop, (∃ m, W 0 m (upd H1 D (DtO P w D []))) ∧ ∀ i m H, W i m H →
  (J.stop i H ∧ ∃ rows, H D = some (DtO P w D rows) ∧ ∀ od, Q (.ref D) (upd H D (.frz od (DtO P w D rows)))) ∨
  (J.go i H ∧ ∃ Nx : Hp → Prop, (∀ H', Nx H' → ∃ m', m' < m ∧ W (i + 1) m' H') ∧ ∀ x H', J.yld i H x H' → g x (wipe σ vs) H' fun σ2 H2 => wipe σ2 vs = wipe σ vs ∧ tk σ2 H2 fun y H4 => tv σ2 H4 fun z H5 =>
    ∃ (rows : List DRow) (k : List Int) (kb c : Addr), y = .ref kb ∧ z = .ref c ∧ SqT K H5 kb (k.map V.int) ∧ (∀ r ∈ rows, SqT K H5 r.2.1 (r.1.map V.int)) ∧ H5 D = some (DtO P w D rows) ∧ k ∉ rows.map (·.1) ∧ rows.length < 1000 ∧ Nx (upd H5 D (DtO P w D (rows ++ [(k, kb, c)]))))
section
variable {X : Cx}
/-- one more key -/
theorem dt_set {pins : List (Addr × Obj)} {σ : L2.St} {H : Hp} {s : Shared} {E : Value → Shared → Prop} {D kb c : Addr} {rows : List DRow} {k : List Int} {Q : Unit → Shared → Prop} (hu : X.A.units < cLine) (I : Inv X pins σ H s) (hD : H D = some (DtO X.prog X.w D rows))
    (hkb : SqT X.K H kb (k.map V.int)) (hrows : ∀ r ∈ rows, SqT X.K H r.2.1 (r.1.map V.int)) (hk : k ∉ rows.map (·.1)) (hl : rows.length < 1000) (h : ∀ s', Inv X pins σ (upd H D (DtO X.prog X.w D (rows ++ [(k, kb, c)]))) s' → Q () s') :
    wpAny (model X.prog X.w) X.A (dictSet D (.ref kb) (.ref c)) Q E s := by
  obtain ⟨full, low⟩ := dt_full I (Rd.of hD) hrows
  refine wpAny_dictSet_heap (knd := TK X.prog X.w) (k := k) hu (I.isT hkb) full (fun h' x sb => ?_) (by rw [List.length_map, sizeLine_eq]; omega)
  have new : storedH (rawR rows) k kb (Value.ref c) = rawR rows ++ [(k, kb, Value.ref c)] := by
    refine storedH_new ?_ _ _
    unfold atKey
    rw [Option.map_eq_none_iff, List.find?_eq_none]
    intro y hy e
    refine hk ?_
    rw [← rawR_keys]
    exact List.mem_map.mpr ⟨y, hy, of_decide_eq_true e⟩
  rw [new] at x
  have he : ∃ u, h'.get? D = some u := by
    obtain ⟨o, _, _, e, _⟩ := x
    exact ⟨o, e⟩
  exact h _ (I.write (e := D) (t' := s.toks + (TK X.prog X.w).draws k) (by rw [hD]; trivial) (.inl rfl) (fun b u hb e => (sb.2 b hb).trans e) he (dtO_ok (dt_more low x)))
theorem pe_dcR {kx vx tg iter : Expr} {scope : Scope} {own : List (Str × Nat)} {pos : Pos} {wi : TI} {g : TG} {tk tv : TE} (calm : X.calm = true) (hu : X.A.units < cLine) (nod : X.N.Nodup) (pi : PI X tg iter wi) (blk : BlkOk X.N X.env.scope scope own)
    (pg : ∀ (s : Shared) (H : Hp) (C : Addr) (cl : List (Str × Addr)) (fp : List Addr), PG (X.blk s H scope (compEnvC scope cl C X.env) fp) tg g)
    (pk : ∀ (s : Shared) (H : Hp) (C : Addr) (cl : List (Str × Addr)) (fp : List Addr), PE (X.blk s H scope (compEnvC scope cl C X.env) fp) kx tk)
    (pv : ∀ (s : Shared) (H : Hp) (C : Addr) (cl : List (Str × Addr)) (fp : List Addr), PE (X.blk s H scope (compEnvC scope cl C X.env) fp) vx tv) (fs : ∀ x, foldedSetIterable iter X.env x = pure x := by intro _; rfl) :
    PE X (.DictComp kx vx [⟨tg, iter, [], 0⟩] scope pos) (tDcR X.prog X.w X.K wi g tk tv (own.map (·.2))) := by
  refine ⟨fun pins s σ H Q I h => ?_⟩
  rw [arm_eval_DictComp]
  have clos : ∀ y ∈ scope.names, y.2 = .free → ∃ c, X.env.cells.lookup y.1 = some c := fun y hy e => (blk.free y hy e).elim (fun k => I.ok.has _ (.inl k)) fun k => I.ok.has _ (.inr k)
  refine wpAny_comprehension_free (use := none) rfl fs (closure_ok clos) blk.kind (fun y hy e => by rw [blk.uniq y hy, e]) (thn (pi.run pins s σ H _ I h) fun xv s1 r1 => thn r1 fun itv s2 r2 => ?_)
  obtain ⟨it, fp, tn, J, H2, rfl, I2, T, st2, f2, q⟩ := r2
  refine wpAny_newObj_type (newEnv_comp ?_)
  generalize eD : s2.heap.objs.size = D
  obtain ⟨W, ⟨m0, w0⟩, turn⟩ := q D (I2.hok.fresh (Nat.le_of_eq eD))
  have low : (s2.heap.objs.size == sysModules) = false := (show ObjOk X.prog X.w (upd H2 s2.heap.objs.size (.dK [])) _ s2.heap.objs.size (.dK []) from dk_empty s2.heap I2.big).2.1
  generalize e3 : ({ s2 with heap := s2.heap.push { cls := .type "dict", data := .dict #[] } } : Shared) = s3
  have hh3 : s3.heap = s2.heap.push { cls := .type "dict", data := .dict #[] } := by rw [← e3]
  have I3 : Inv X pins σ (upd H2 D (DtO X.prog X.w D [])) s3 := by
    rw [← e3]
    refine I2.laid (t' := s2.toks) (fun b o e => Heap.get?_push_of_some _ e) (Nat.le_of_eq eD) (dtO_ok ?_)
    rw [← eD]
    exact ⟨low, List.nodup_nil, #[], 0, ⟨_, Heap.get?_push_size _ rfl, ⟨rfl, rfl, rfl⟩, rfl⟩, rfl⟩
  have below : ∀ b ∈ fp, b < s2.heap.objs.size := fun b hb => let ⟨_, e, _⟩ := T.obj _ _ st2 b hb; Heap.lt_size e
  have f3 : ∀ b ∈ fp, FpOk X pins (upd H2 D (DtO X.prog X.w D [])) b ∧ b < s3.heap.objs.size := fun b hb => by
    have lt := below b hb
    refine ⟨⟨?_, (f2 b hb).2⟩, by rw [hh3, Heap.size_push]; exact Nat.lt_succ_of_lt lt⟩
    rw [upd_ne (by rw [← eD]; exact Nat.ne_of_lt lt)]
    exact (f2 b hb).1
  have st3 : tn 0 s3.heap := T.keep _ _ _ st2 fun b _ o e => by rw [hh3]; exact Heap.get?_push_of_some _ e
  have I4 := block_start I3 blk nod f3
  have ag := pg s3 (upd H2 D (DtO X.prog X.w D [])) s3.heap.objs.size (cellsFrom (s3.heap.objs.size + 1) scope.names (cloFrom X.env.cells scope.names [])) fp
  have ak := pk s3 (upd H2 D (DtO X.prog X.w D [])) s3.heap.objs.size (cellsFrom (s3.heap.objs.size + 1) scope.names (cloFrom X.env.cells scope.names [])) fp
  have av := pv s3 (upd H2 D (DtO X.prog X.w D [])) s3.heap.objs.size (cellsFrom (s3.heap.objs.size + 1) scope.names (cloFrom X.env.cells scope.names [])) fp
  show codeAny _ _ (.compStart (.DictComp kx vx [⟨tg, iter, [], 0⟩] scope pos) 0 (.ref it) (.ref D) (compEnvC scope (cellsFrom (s3.heap.objs.size + 1) scope.names (cloFrom X.env.cells scope.names [])) s3.heap.objs.size X.env)) (compPost (model X.prog X.w) X.A X.xe none _ (.ref D) s3.heap.objs.size) { s3 with heap := pushCells (s3.heap.push { cls := .type "dict", data := .dict #[] }) scope.names }
  have none3 : ∀ b ∈ fp, (upd H2 D (DtO X.prog X.w D [])) b = none := fun b hb => (f3 b hb).1.1
  generalize ece : compEnvC scope (cellsFrom (s3.heap.objs.size + 1) scope.names (cloFrom X.env.cells scope.names [])) s3.heap.objs.size X.env = ce at I4 ag ak av ⊢
  have loc : ce.locals = s3.heap.objs.size := by subst ece; rfl
  generalize eH3 : upd H2 D (DtO X.prog X.w D []) = H3 at I3 I4 ag ak av w0 none3 f3
  generalize e4 : ({ s3 with heap := pushCells (s3.heap.push { cls := .type "dict", data := .dict #[] }) scope.names } : Shared) = s4 at I4 ⊢
  have st4 : tn 0 s4.heap := T.keep _ _ _ st3 fun b _ o e => by rw [← e4]; exact pushCells_keeps _ _ _ _ (Heap.get?_push_of_some _ e)
  have foot : ∀ {σ' : L2.St} {H' : Hp} {s' : Shared}, Inv (X.blk s3 H3 scope ce fp) [] σ' H' s' → (∀ b ∈ fp, H' b = none) → ∀ b ∈ fp, FpOk (X.blk s3 H3 scope ce fp) [] H' b := fun {σ' H' s'} J' hn b hb =>
    ⟨hn b hb, (J'.ok.exf b hb).1, J'.ok.exfs b hb, .inl hb, fun x c e => (J'.ok.exf b hb).2 x c e, fun p hp => absurd (show p ∈ ([] : List (Addr × Obj)) ++ [] from hp) (by simp)⟩
  have loop : codeAny (model X.prog X.w) X.A (.compLoop (.DictComp kx vx [⟨tg, iter, [], 0⟩] scope pos) 0 (.ref it) (.ref D) ce) (compPost (model X.prog X.w) X.A X.xe none (fun v s' => EP X pins σ Q v s') (.ref D) s3.heap.objs.size) s4 := by
    refine compLoop_anyD (fun n s' => ∃ i H', Inv (X.blk s3 H3 scope ce fp) [] (wipe σ (own.map (·.2))) H' s' ∧ tn i s'.heap ∧ (∀ b ∈ fp, H' b = none) ∧ W i n H') ?_ m0 ⟨0, H3, I4, st4, none3, w0⟩
    rintro n s5 ⟨i, H5, I5, st5, n5, w5⟩
    rcases turn i n H5 w5 with ⟨stop, rows, hD, qq⟩ | ⟨go, Nx, hNx, step⟩
    · refine thnF (T.done (X.blk s3 H3 scope ce fp) rfl rfl rfl calm i [] s5 _ H5 (fun _ _ => False) I5 (foot I5 n5) st5 stop) fun r s6 ⟨er, I6⟩ => ?_
      subst er
      have I7 : Inv X pins σ H5 s6 := I3.call' (ch := fp) I6.os I6.base I6.hok I6.bare fun b hb => ⟨(f3 b hb).1.2.2.2.1, (f3 b hb).1.2.1, (f3 b hb).1.2.2.2.2.1, (f3 b hb).1.2.2.2.2.2⟩
      obtain ⟨od, I8⟩ := I7.lock hD (show Mut (some (DtO X.prog X.w D rows)) from trivial)
      have nC : H5 s3.heap.objs.size = none := by
        have z : H5 ce.locals = none := I6.free
        rw [loc] at z
        exact z
      have neC : s3.heap.objs.size ≠ D := fun z => by
        rw [hh3, Heap.size_push, eD] at z
        exact absurd z (Nat.succ_ne_self _)
      obtain ⟨m, hn, _⟩ := I6.loc
      have hn : s6.heap.Ns ce.locals m := hn
      rw [loc] at hn
      obtain ⟨f0, f1, f2', f3', f4, f5⟩ := I3.fpOk (H' := upd H5 D (.frz od (DtO X.prog X.w D rows))) (Nat.le_refl _) (by rw [upd_ne neC]; exact nC)
      exact ⟨m, hn, fun h'' sb => ⟨.ref D, _, I8.turned (t' := s6.toks) (fun b o hb e => (sb.2 b hb).trans e) f0 f1 f3' f4 f5, rfl, qq od⟩⟩
    · refine thnF (T.item (X.blk s3 H3 scope ce fp) rfl rfl rfl calm i [] s5 _ H5 (fun _ _ => False) I5 (foot I5 n5) st5 go) fun r s6 ⟨u, er, r6⟩ => ?_
      subst er
      refine thnF r6 fun _ s7 ⟨x, H7, I7, r7, y7, st7, n7⟩ => ?_
      refine thnF (ag.run _ s7 _ H7 x u _ (I7.pinned (foot I7 n7) (T.obj _ _ st7)) r7 (step x H7 y7)) fun _ s8 ⟨σ8, H8, I8, hw8, q8⟩ => ?_
      refine wpAny_pure ?_
      simp only [if_true]
      refine thnF (ak.run _ s8 σ8 H8 _ I8 q8) fun z s9 ⟨yk, H9, I9, r9, q9⟩ => ?_
      refine thnF (av.run _ s9 σ8 H9 _ I9 q9) fun z2 s10 ⟨yv, H10, I10, r10, rows, k, kb, c, ek, ev, hkb, hrows, hD10, hnew, hlen, nx⟩ => ?_
      subst ek ev
      obtain rfl : z = Value.ref kb := r9
      obtain rfl : z2 = Value.ref c := r10
      refine dt_set (X := X.blk s3 H3 scope ce fp) hu I10 hD10 hkb hrows hnew hlen fun s11 I11 => ?_
      obtain ⟨m', hm, w'⟩ := hNx _ nx
      have pinned : ∀ b ∈ fp, ∀ o, s7.heap.get? b = some o → s11.heap.get? b = some o ∧ (upd H10 D (DtO X.prog X.w D (rows ++ [(k, kb, c)]))) b = none := fun b hb o e =>
        let y := I11.pin (b, o) (List.mem_append_right _ (List.mem_append_right _ (mem_pinsAt hb e)))
        ⟨y.1, y.2.1⟩
      have hl : (wipe σ (own.map (·.2))).length = σ8.length := by rw [← hw8, wipe_length]
      refine ⟨m', hm, i + 1, _, (I11.unpinned (pins := [])).weak hl (fun j v e => ?_), T.keep _ _ _ st7 fun b hb o e => (pinned b hb o e).1, fun b hb => ?_, w'⟩
      · rw [← hw8] at e
        exact (wipe_some e).1
      · obtain ⟨o, e, _⟩ := T.obj _ _ st7 b hb
        exact (pinned b hb o e).2
  exact codeAny_compStart_dict loop (T.self X.A 0 _ _ _ st4 loop)
end
end Evr
set_option Elab.async false
set_option linter.all false
set_option maxRecDepth 100000
set_option maxHeartbeats 4000000
/-! The text by places, what a def's promise asks. -/
namespace Evr
open PySem PySem.Spec PyProof.Rows L2
def topS (i : Nat) : Stmt := PySem.Challenge.pw_everyring_k32_whole_joined_and_shared.main.body.getD i (.Pass ⟨0, 0, 0, 0⟩)
abbrev s_is_number : Stmt := topS 6
abbrev s_is_whole : Stmt := topS 7
abbrev s_is_prime : Stmt := topS 8
abbrev s_is_pair : Stmt := topS 9
abbrev s_fits_rule : Stmt := topS 10
abbrev s_trimmed : Stmt := topS 11
abbrev s_inverse : Stmt := topS 12
abbrev s_scaled : Stmt := topS 13
abbrev s_monic : Stmt := topS 14
abbrev s_timesed : Stmt := topS 15
abbrev s_divided : Stmt := topS 16
abbrev s_common_of_two : Stmt := topS 17
abbrev s_gcd_of : Stmt := topS 18
abbrev s_lcm_of : Stmt := topS 19
abbrev s_power_of_x : Stmt := topS 20
abbrev s_of_rule : Stmt := topS 21
abbrev s_core_of : Stmt := topS 22
abbrev s_rows_of_degree : Stmt := topS 23
abbrev s_factors_of : Stmt := topS 24
abbrev s_with_last : Stmt := topS 25
abbrev s_divisors_that_are_prime : Stmt := topS 26
abbrev s_order_of_factor : Stmt := topS 27
abbrev s_least_power : Stmt := topS 28
abbrev s_fits_panel : Stmt := topS 30
abbrev s_need_panel : Stmt := topS 31
abbrev s_generator_of : Stmt := topS 32
abbrev s_need_both : Stmt := topS 34
abbrev s_parts_of : Stmt := topS 35
abbrev s_marks_of : Stmt := topS 36
abbrev s_undivided : Stmt := topS 37
abbrev s_picture_of : Stmt := topS 38
abbrev s_marks : Stmt := topS 39
abbrev s_times_in : Stmt := topS 40
abbrev s_outside_on : Stmt := topS 41
abbrev s_alike : Stmt := topS 42
abbrev s_within : Stmt := topS 43
abbrev s_joined : Stmt := topS 44
abbrev s_shared : Stmt := topS 45
abbrev s__law_spring : Stmt := topS 47
abbrev s__law_take : Stmt := topS 48
abbrev s__law_pat : Stmt := topS 49
abbrev s__law_base : Stmt := topS 50
abbrev s__law_small : Stmt := topS 54
abbrev s__law_added : Stmt := topS 55
abbrev s_law : Stmt := topS 56

/-- the built-in names that are still the built-ins -/
structure Txt (K : PySem.W.Frag) (mg : Str → Option Value) : Prop where
  primes_ : ∃ a, mg "PRIMES" = some (.ref a) ∧ ∀ H0, Dp K H0 (.ref a) (.tuple [.int 2, .int 3, .int 5])
  isinstance_ : mg "isinstance" = none
  int_ : mg "int" = none
  bool_ : mg "bool" = none
  tuple_ : mg "tuple" = none
  len_ : mg "len" = none
  all_ : mg "all" = none
  range_ : mg "range" = none
  list_ : mg "list" = none
  max_ : mg "max" = none
  min_ : mg "min" = none
  enumerate_ : mg "enumerate" = none
  sorted_ : mg "sorted" = none
  set_ : mg "set" = none
  any_ : mg "any" = none
  zip_ : mg "zip" = none

def startG (n : Nat) (ds : List PyData) : List Sl := ds.map Sl.d ++ List.replicate (n - ds.length) .no
theorem sat_start {K : PySem.W.Frag} {h H0 H : Hp} {N : List Str} {vs : List V} {ds : List PyData} (i : Same H0 H) (hd : DpAll K H0 vs ds) : Sat K h H0 (L2.start N vs) H (startG N.length ds) := by
  have hl := dps_len hd
  refine ⟨i, ?_, fun j s e => ?_, fun j k xs ys p _ _ e1 _ _ _ => ?_⟩
  · unfold L2.start startG
    rw [List.length_append, List.length_append, List.length_map, List.length_map, List.length_replicate, List.length_replicate, hl]
  · unfold startG at e
    unfold L2.start
    by_cases hj : j < ds.length
    · rw [List.getElem?_append_left (by rw [List.length_map]; exact hj), List.getElem?_map, List.getElem?_eq_getElem hj] at e
      cases e
      obtain ⟨v, e1, e2⟩ := dps_get hd (List.getElem?_eq_getElem hj)
      refine ⟨some v, ?_, v, rfl, e2⟩
      rw [List.getElem?_append_left (by rw [List.length_map, hl]; exact hj), List.getElem?_map, e1]
      rfl
    · rw [List.getElem?_append_right (by rw [List.length_map]; omega), List.getElem?_replicate] at e
      split at e
      · rename_i hlt
        cases e
        refine ⟨none, ?_, trivial⟩
        rw [List.getElem?_append_right (by rw [List.length_map, hl]; omega), List.getElem?_replicate, if_pos ?_]
        rw [List.length_map] at hlt ⊢
        omega
      · cases e
  · unfold startG at e1
    rw [List.getElem?_append] at e1
    split at e1
    · rw [List.getElem?_map] at e1
      cases q : ds[j]? with
      | none => rw [q] at e1; cases e1
      | some d => rw [q] at e1; cases e1
    · rw [List.getElem?_replicate] at e1
      split at e1 <;> cases e1
section
variable {K : PySem.W.Frag} {Γ : List Sl} {ta tb tc te : TE} {d : PyData} {ds : List PyData}
theorem ed_chain {g g' : Int → Int → Bool} {i j l : Int} (ha : EvD K ta Γ (.int i)) (hb : EvD K tb Γ (.int j)) (hc : EvD K tc Γ (.int l)) :
    EvD K (tChain (rI0 fun i j => .bl (g i j)) (rI0 fun i j => .bl (g' i j)) ta tb tc) Γ (.bool (g i j && g' j l)) := fun hh H0 σ H x Q q =>
  ha hh H0 σ H x _ fun v H1 H' a e1 => hb hh H1 σ H' (x.adv a) _ fun w H2 H'' a2 e2 => by
    rw [dp_int e1, dp_int e2]
    refine ⟨i, j, rfl, rfl, g i j, rfl, ?_⟩
    cases hg : g i j with
    | false =>
      rw [hg] at q
      exact q _ _ _ (a.trans a2) (.bl _)
    | true =>
      rw [hg] at q
      refine hc hh H2 σ H'' ((x.adv a).adv a2) _ fun z H3 H3' a3 e3 => ?_
      rw [dp_int e3]
      exact ⟨j, l, rfl, rfl, q _ _ _ (a.trans (a2.trans a3)) (.bl _)⟩
theorem cut_take {n : Nat} (h : n ≤ ds.length) : cutD ds none (some (n : Int)) = ds.take n := by
  unfold cutD
  rw [HT.sIx_none, HT.sIx_nat, Nat.min_eq_left h]
  rfl
theorem cut_drop1 : cutD ds (some 1) none = ds.drop 1 := by
  unfold cutD
  rw [show HT.sIx ds.length 0 (some 1) = min 1 ds.length from HT.sIx_nat ds.length 0 1, HT.sIx_none]
  cases ds with
  | nil => rfl
  | cons x r =>
    rw [show min 1 (x :: r).length = 1 by rw [List.length_cons]; omega]
    show (List.take ((x :: r).length - 1) r) = r
    rw [List.length_cons, Nat.add_sub_cancel]
    exact List.take_length
end
section
variable {P : Program} {w : World} {K : PySem.W.Frag} {mg : Str → Option Value} {base : Heap}
/-- a def whose promise is a relation of data -/
theorem cal_pure {x : Str} {st : Stmt} {f : Addr} {fd : FuncData} {N ps : List Str} {k : Nat} {R : List PyData → PyData → Prop} (F : C8.Def K mg x st f fd) (b : Binds K fd ps []) (S : FnScope N ps (C8.fnScope st)) (len : ∀ ds r, R ds r → ds.length = ps.length)
    (hbody : ∀ (cdv : Value) (A : Around) (outer : List Env) (s : Shared) (H : Hp) (E : XK), Room k (A.deeper (envOfC x (C8.fnScope st) s.heap.objs.size f cdv)) → ∀ ds r, R ds r →
      ∃ t, PSs (cxOf C8.CX0 P w K mg base N x (C8.fnScope st) f cdv A outer s H E).nox (C8.fnBody st) t ∧ ∀ c D, RetOk K c D.rt r → Go K c (startG N.length ds) (t D)) : C8.Cal P w K mg base (k + 1) x (PureF K R) [] := by
  refine C8.cal0 F b .nil S (fun vs H Q E h => ?_) (fun cdv A outer s H vs Q E hr h => ?_)
  · obtain ⟨H0, ds, r, i, hd, hR, _⟩ := h
    rw [dps_len hd]
    exact len ds r hR
  · obtain ⟨H0, ds, r, i, hd, hR, q⟩ := h
    obtain ⟨t, h1, h2⟩ := hbody cdv A outer s H E hr ds r hR
    exact ⟨t, h1, h2 ⟨H0, H0, H⟩ _ (fun v H0' H' a e => q v H0' H' a.from e) H0 _ H (At.start i) (sat_start i hd)⟩
theorem cal_new {x : Str} {st : Stmt} {f : Addr} {fd : FuncData} {N ps : List Str} {k : Nat} {R : List PyData → List PyData → Prop} (F : C8.Def K mg x st f fd) (b : Binds K fd ps []) (S : FnScope N ps (C8.fnScope st)) (len : ∀ ds r, R ds r → ds.length = ps.length)
    (hbody : ∀ (cdv : Value) (A : Around) (outer : List Env) (s : Shared) (H : Hp) (E : XK), Room k (A.deeper (envOfC x (C8.fnScope st) s.heap.objs.size f cdv)) → ∀ ds r, R ds r →
      ∃ t, PSs (cxOf C8.CX0 P w K mg base N x (C8.fnScope st) f cdv A outer s H E).nox (C8.fnBody st) t ∧ ∀ c D, RetNew K c D.rt r → Go K c (startG N.length ds) (t D)) : C8.Cal P w K mg base (k + 1) x (NewF K R) [] := by
  refine C8.cal0 F b .nil S (fun vs H Q E h => ?_) (fun cdv A outer s H vs Q E hr h => ?_)
  · obtain ⟨H0, ds, r, i, hd, hR, _⟩ := h
    rw [dps_len hd]
    exact len ds r hR
  · obtain ⟨H0, ds, r, i, hd, hR, q⟩ := h
    obtain ⟨t, h1, h2⟩ := hbody cdv A outer s H E hr ds r hR
    refine ⟨t, h1, h2 ⟨H0, H0, H⟩ _ (fun p vs G0 G1 a n n0 l dd => ?_) H0 _ H (At.start i) (sat_start i hd)⟩
    have z := q p vs G0 (hid G1 p) (a.from.hid n n0) hid_at dd
    rw [hid_back l] at z
    exact z
end
end Evr
set_option Elab.async false
/-! The mirror: what each def reckons, as plain functions over lists of ints. -/
namespace Evr
abbrev Row := List Int
def lenM (r : Row) : Nat → Nat
  | 0 => 0
  | n + 1 => if r.getD n 0 = 0 then lenM r n else n + 1
def trimM (r : Row) : Row := r.take (lenM r r.length)
def intsTo (a b : Int) : List Int := (List.range (b - a).toNat).map fun i => a + (i : Nat)
def invM (p c : Int) : Option Int := ((intsTo 0 p).filter fun o => decide (o * c % p = 1)).head?
def scaledM (p : Int) (row : Row) (c : Int) : Row := trimM (row.map fun x => x * c % p)
def monicM (p : Int) (row : Row) : Option Row := row.getLast?.bind fun l => (invM p l).bind fun c => some (scaledM p row c)
def smallI (x : Int) : Bool := decide (-(2 ^ 64) < x) && decide (x < 2 ^ 64)
def mulIn (p x : Int) (i : Nat) : List Int → Nat → Row → Row
  | [], _, f => f
  | y :: ys, j, f => mulIn p x i ys (j + 1) (f.set (i + j) ((f.getD (i + j) 0 + x * y) % p))
def mulOut (p : Int) (b : Row) : List Int → Nat → Row → Row
  | [], _, f => f
  | x :: xs, i, f => mulOut p b xs (i + 1) (mulIn p x i b 0 f)
def mulM (p : Int) (a b : Row) : Option Row := if a.all smallI then some (trimM (mulOut p b a 0 (List.replicate (a.length + b.length) 0))) else none
def divIn (p q : Int) (n : Nat) : List Int → Nat → Row → Row
  | [], _, r => r
  | y :: ys, j, r => divIn p q n ys (j + 1) (r.set (n + j) ((r.getD (n + j) 0 - q * y) % p))
def divOut (p over : Int) (b : Row) : Nat → Row → Row → Row × Row
  | 0, rest, found => (found, rest)
  | n + 1, rest, found => divOut p over b n (divIn p (rest.getD (n + b.length - 1) 0 * over % p) n b 0 rest) (found.set n (rest.getD (n + b.length - 1) 0 * over % p))
def divM (p : Int) (a b : Row) : Option (Row × Row) := b.getLast?.bind fun l => (invM p l).bind fun over =>
  some (trimM (divOut p over b (a.length + 1 - b.length) a (List.replicate (a.length + 1 - b.length) 0)).1, trimM (divOut p over b (a.length + 1 - b.length) a (List.replicate (a.length + 1 - b.length) 0)).2)
def cotM (p : Int) : Nat → Row → Row → Option Row
  | _, one, [] => if one.length ≤ 400 then (if one = [] then some [] else monicM p one) else none
  | 0, _, _ :: _ => none
  | n + 1, one, y :: ys => if one.length ≤ 400 ∧ (y :: ys).length ≤ 400 then (divM p one (y :: ys)).bind fun qr => cotM p n (y :: ys) qr.2 else none
def gcdF (p : Int) : Row → List Row → Option Row
  | f, [] => some f
  | f, r :: rs => (cotM p 20 f r).bind fun g => gcdF p g rs
def gcdM (p : Int) (rows : List Row) : Option Row := gcdF p [] rows
def lcmF (p : Int) : Row → List Row → Option Row
  | f, [] => some f
  | f, r :: rs => if f.length ≤ 100 ∧ r.length ≤ 100 then (cotM p 20 f r).bind fun g => if g.length ≤ 100 then (divM p r g).bind fun qr => (mulM p f qr.1).bind fun m => if m.length ≤ 1000 then (monicM p m).bind fun f' => lcmF p f' rs else none else none else none
def lcmM (p : Int) (rows : List Row) : Option Row := lcmF p [1] rows
def powF (p : Int) (m : Row) : Nat → Nat → Row → Row → Option Row
  | _, 0, f, _ => some f
  | 0, _ + 1, _, _ => none
  | n + 1, left + 1, f, sq => if f.length ≤ 100 ∧ sq.length ≤ 100 ∧ m.length ≤ 100 then (if (left + 1) % 2 = 1 then (mulM p f sq).bind fun z => if z.length ≤ 400 then (divM p z m).map (·.2) else none else some f).bind fun f' =>
      (mulM p sq sq).bind fun z => if z.length ≤ 400 then (divM p z m).bind fun qr => powF p m n ((left + 1) / 2) f' qr.2 else none else none
def powM (p : Int) (many : Nat) (m : Row) : Option Row := if 100 < m.length then none else (divM p [1] m).bind fun a => (divM p [0, 1] m).bind fun b => powF p m 30 many a.2 b.2
abbrev Rule := List (Int × Int)
def fillM (least : Int) : Rule → Row → Option Row
  | [], f => some f
  | (o, a) :: r, f => if 0 ≤ o - least ∧ (o - least).toNat < f.length then fillM least r (f.set (o - least).toNat a) else none
def ofRuleM (rule : Rule) : Option (Int × Row) := rule.head?.bind fun a => rule.getLast?.bind fun z =>
  if 0 ≤ z.1 - a.1 ∧ z.1 - a.1 ≤ 900 then (fillM a.1 rule (List.replicate (z.1 - a.1 + 1).toNat 0)).bind fun r => some (a.1, r) else none
def coreM (p : Int) (rule : Rule) : Option Row := (ofRuleM rule).bind fun r => monicM p r.2
def rodF (p : Int) : Nat → Nat → List Row → List Row
  | 0, _, f => f
  | n + 1, k, f => rodF p n (k + 1) (f.flatMap fun r => (intsTo (if k = 0 then 1 else 0) p).map fun c => r ++ [c])
def rodM (p : Int) (d : Nat) : List Row := (rodF p d 0 [[]]).map (· ++ [1])
def facRow (p : Int) (row : Row) : Nat → Row → Int → Row → Row → Option (Row × Int)
  | n, rest, many, q, [] => match n with
    | 0 => none
    | n + 1 => if q.length ≤ 400 ∧ row.length ≤ 400 then (divM p q row).bind fun qr => facRow p row n q (many + 1) qr.1 qr.2 else none
  | _, rest, many, _, _ :: _ => some (rest, many)
def facRows (p : Int) : List Row → Row → List (Row × Int) → Option (Row × List (Row × Int))
  | [], rest, found => some (rest, found)
  | row :: rows, rest, found => if 400 < rest.length ∨ 400 < row.length ∨ 400 < found.length then none else (divM p rest row).bind fun qr => (facRow p row 20 rest 0 qr.1 qr.2).bind fun rm => facRows p rows rm.1 (if rm.2 > 0 then found ++ [(row, rm.2)] else found)
def withLast (found : List (Row × Int)) (rest : Row) : Option (List (Row × Int)) :=
  if 400 < found.length ∨ 400 < rest.length then none else if rest = [1] then some found else if found.any (fun x => decide (x.1.length = rest.length)) then none else some (found ++ [(rest, 1)])
def facW (p : Int) : Nat → Nat → Row → List (Row × Int) → Option (List (Row × Int))
  | n, deg, rest, found => if 2 * deg < rest.length then (match n with
    | 0 => none
    | n + 1 => if 3 < deg then none else (facRows p (rodM p deg) rest found).bind fun rf => facW p n (deg + 1) rf.1 rf.2) else withLast found rest
def factorsM (p : Int) (poly : Row) : Option (List (Row × Int)) := facW p 10 1 poly []
def dvIn : Nat → Int → Int → Option Int
  | n, left, d => if left % d = 0 then (match n with
    | 0 => none
    | n + 1 => dvIn n (left / d) d) else some left
def dvW : Nat → Int → Int → List Int → Option (List Int)
  | n, left, d, found => if d * d ≤ left then (match n with
    | 0 => none
    | n + 1 => if left % d = 0 then (dvIn 20 left d).bind fun l => dvW n l (d + 1) (found ++ [d]) else dvW n left (d + 1) found) else some (if left > 1 then found ++ [left] else found)
def divisorsM (k : Int) : Option (List Int) := dvW 30 k 2 []
def ordW (p : Int) (factor one : Row) (d : Int) : Nat → Int → Option Int
  | n, found => if found % d = 0 then (powM p (found / d).toNat factor).bind fun z => if z = one then (match n with
    | 0 => none
    | n + 1 => ordW p factor one d n (found / d)) else some found else some found
def ordF (p : Int) (factor one : Row) : List Int → Int → Option Int
  | [], found => some found
  | d :: ds, found => if 0 < d ∧ d < 1073741824 ∧ 0 ≤ found then (ordW p factor one d 20 found).bind fun f => ordF p factor one ds f else none
def powI (p : Int) : Nat → Int
  | 0 => 1
  | n + 1 => powI p n * p
def orderM (p : Int) (factor : Row) : Option Int := if 20 < factor.length ∨ factor = [] then none else (divM p [1] factor).bind fun a => (divisorsM (powI p (factor.length - 1) - 1)).bind fun ds => ordF p factor a.2 ds (powI p (factor.length - 1) - 1)
def lpW (p bound : Int) : Nat → Int → Option Int
  | n, found => if found < bound then (match n with
    | 0 => none
    | n + 1 => if smallI found then lpW p bound n (found * p) else none) else some found
def leastM (p bound : Int) : Option Int := lpW p bound 20 1
abbrev Part := Row × Int × Int
def partsF (p : Int) : List (Row × Int) → Option (List Part)
  | [] => some []
  | (f, t) :: r => (orderM p f).bind fun o => (partsF p r).bind fun ps => some ((f, t, o) :: ps)
def partsM (p : Int) (g : Row) : Option (List Part) := (factorsM p g).bind fun fs => partsF p fs
def getI (d : List (Int × Int)) (k : Int) : Int := ((d.find? fun kv => decide (kv.1 = k)).map (·.2)).getD 0
def putI (d : List (Int × Int)) (k v : Int) : List (Int × Int) := if d.any (fun kv => decide (kv.1 = k)) then d.map fun kv => if kv.1 = k then (kv.1, v) else kv else d ++ [(k, v)]
def mkW (p : Int) (deg times order : Int) : Nat → Int → Int → List (Int × Int) → Option (List (Int × Int))
  | n, power, before, wts => if before < times then (match n with
    | 0 => none
    | n + 1 => if smallI order && smallI power && smallI deg && decide (wts.length < 64) then
        mkW p deg times order n (power * p) (if power < times then power else times) (putI wts (order * power) (getI wts (order * power) + deg * ((if power < times then power else times) - before)))
      else none) else some wts
def marksF (p : Int) : List Part → List (Int × Int) → Option (List (Int × Int))
  | [], wts => some wts
  | (f, t, o) :: r, wts => (mkW p (f.length - 1) t o 20 1 0 wts).bind fun w => marksF p r w
def insB (x : Int × Int) : List (Int × Int) → List (Int × Int)
  | [] => [x]
  | y :: r => if x.1 ≤ y.1 then x :: y :: r else y :: insB x r
def sortB : List (Int × Int) → List (Int × Int)
  | [] => []
  | x :: r => insB x (sortB r)
def okW (w : List (Int × Int)) : Bool := decide (w.length < 64) && w.all (fun kv => decide (0 ≤ kv.1) && decide (kv.1 < 1099511627776) && decide (0 ≤ kv.2) && decide (kv.2 < 1099511627776)) && decide ((w.map (·.1)).Nodup)
def marksM (p : Int) (g : Row) : Option (List (Int × Int)) := (partsM p g).bind fun ps => (marksF p ps []).bind fun w => if okW w then some (sortB w) else none
def addF : List (Int × Int) → List (Int × Int) → Option (List (Int × Int))
  | [], d => some d
  | kv :: r, d => if d.length < 64 then addF r (putI d kv.1 (getI d kv.1 + kv.2)) else none
def addedM (a b : List (Int × Int)) : Option (List (Int × Int)) := if a.length + b.length < 64 then (addF (a ++ b) []).bind fun d => if okW d then some (sortB d) else none else none
def lookP (ps : List Part) (f : Row) : Option Part := ps.find? fun x => decide (x.1 = f)
def timesInM (one other : List Part) : List (Int × Int × Int) :=
  (one.map fun x => (x.2.2, x.2.1, ((lookP other x.1).map (·.2.1)).getD 0)) ++ (other.filter fun x => (lookP one x.1).isNone).map fun x => (x.2.2, 0, x.2.1)
def outF (p : Int) : List (Int × Int × Int) → List Int → Option (List Int)
  | [], f => some f
  | (o, a, b) :: r, f => if b > a then (leastM p (a + 1)).bind fun l => if smallI o then outF p r (f ++ [o * l]) else none else outF p r f
def okP (a : List Part) : Bool := decide ((a.map (·.1)).Nodup) && decide (a.length ≤ 400)
def outsideM (p : Int) (g h : Row) : Option (List Int) := (partsM p g).bind fun a => (partsM p h).bind fun b => if okP a && okP b then (outF p (timesInM a b) []).bind fun f => if decide (f.length < 64) && f.all (fun n => decide (0 < n)) then some f else none else none
def withinM (p : Int) (g h : Row) : Option Bool := (outsideM p g h).map fun f => decide (f = [])
def picM (row : Row) : Rule := ((List.range row.length).zip row).filterMap fun x => if x.2 ≠ 0 then some ((x.1 : Int), x.2) else none
def genM (p : Int) (bs : List Rule) : Option Row := (bs.mapM (coreM p)).bind fun cs => gcdM p cs
def ascB : List Int → Bool
  | a :: b :: r => decide (a < b) && ascB (b :: r)
  | _ => true
def ruleB (p : Int) (r : Rule) : Bool := r.all (fun x => decide (1 ≤ x.2) && decide (x.2 ≤ p - 1)) && ascB (r.map (·.1)) && decide (0 < r.length) && decide (r.length ≤ 1000)
def panB (p : Int) (bs : List Rule) : Bool := ([2, 3, 5].any fun y => decide (y = p)) && decide (0 < bs.length) && decide (bs.length ≤ 1000) && bs.all (ruleB p)
def joinB (p : Int) (g h : Row) : Option (List Rule) := (gcdM p [g, h]).bind fun r => if panB p [picM r] then some [picM r] else none
def shareB (p : Int) (g h : Row) : Option (List Rule) := (lcmM p [g, h]).bind fun r => if panB p [picM r] then some [picM r] else none
def joinG (p : Int) (g h : Row) : Option Row := (joinB p g h).bind fun bs => genM p bs
def shareG (p : Int) (g h : Row) : Option Row := (shareB p g h).bind fun bs => genM p bs

/-! a look at some values -/
end Evr
set_option Elab.async false
set_option linter.all false
set_option maxRecDepth 100000
set_option maxHeartbeats 4000000
/-! Rows, rules, panels as data. -/
namespace Evr
open PySem PySem.Spec PyProof.Rows L2
abbrev rowsI (r : Row) : List PyData := r.map PyData.int
abbrev rowD (r : Row) : PyData := .tuple (r.map PyData.int)
theorem atI_of {α : Type} {xs : List α} {z : Int} {j : Nat} {v : α} (e : z = (j : Int)) (h : xs[j]? = some v) : atI xs z = some v := by
  rw [e]
  exact atI_nat h
theorem get_int {r : Row} {j : Nat} (h : j < r.length) : (rowsI r)[j]? = some (.int (r.getD j 0)) := by
  rw [List.getElem?_map, List.getElem?_eq_getElem h, List.getD_eq_getElem?_getD, List.getElem?_eq_getElem h]
  rfl
theorem at_int {r : Row} {z : Int} {j : Nat} (e : z = (j : Int)) (h : j < r.length) : atI (rowsI r) z = some (.int (r.getD j 0)) := atI_of e (get_int h)
theorem at_last {r : Row} {l : Int} (h : r.getLast? = some l) : atI (rowsI r) (-1) = some (.int l) := by
  have hne : r ≠ [] := fun e => by rw [e] at h; cases h
  have e : r = r.dropLast ++ [l] := by
    rw [List.getLast?_eq_getLast hne] at h
    have h' := Option.some.inj h
    rw [← h', List.dropLast_concat_getLast]
  rw [e]
  show atI (List.map PyData.int (r.dropLast ++ [l])) (-1) = _
  rw [List.map_append]
  exact atI_last _ _
theorem atI_head {α : Type} {xs : List α} {v : α} (h : xs.head? = some v) : atI xs 0 = some v := atI_of (j := 0) rfl (by rw [← List.head?_eq_getElem?]; exact h)
theorem rangeD_ints {lo : Int} {n : Nat} : rangeD lo n = ((List.range n).map fun i => lo + ((i : Nat) : Int)).map PyData.int := by
  unfold rangeD
  rw [List.map_map]
  rfl
theorem filterMap_map_int {f : Int → Option Int} {xs : List Int} {g : PyData → Option PyData} (h : ∀ x, g (.int x) = (f x).map PyData.int) : (xs.map PyData.int).filterMap g = (xs.filterMap f).map PyData.int := by
  rw [List.filterMap_map, List.map_filterMap]
  congr 1
  funext x
  exact h x
/-- data whose kinds are those of == -/
theorem depth_ints : ∀ r : Row, PyData.depthAll (r.map PyData.int) = 0
  | [] => by simp [PyData.depthAll]
  | x :: r => by
    rw [List.map_cons, PyData.depthAll, depth_ints r]
    simp [PyData.depth]
theorem lay_ints : ∀ r : Row, PyData.canLayAll0 (r.map PyData.int) = true
  | [] => by simp [PyData.canLayAll0]
  | x :: r => by
    rw [List.map_cons, PyData.canLayAll0, lay_ints r]
    simp [PyData.canLay0]
theorem shaped_row (r : Row) : SeqAt.shaped (rowD r) = true := by
  unfold SeqAt.shaped
  rw [PyData.canLay0, PyData.depth, lay_ints, depth_ints]
  rfl
theorem eqv_ints : ∀ a b : Row, PyData.eqvAll (a.map PyData.int) (b.map PyData.int) = decide (a = b)
  | [], [] => by simp [PyData.eqvAll]
  | [], _ :: _ => by simp [PyData.eqvAll]
  | _ :: _, [] => by simp [PyData.eqvAll]
  | x :: a, y :: b => by
    rw [List.map_cons, List.map_cons, PyData.eqvAll, eqv_ints a b, PyData.eqv]
    by_cases h1 : x = y
    · subst h1
      by_cases h2 : a = b
      · subst h2; simp
      · simp [h2]
    · simp [h1]
theorem eqv_row (a b : Row) : PyData.eqv (rowD a) (rowD b) = decide (a = b) := by
  rw [PyData.eqv, eqv_ints]
theorem rd_eqRow {K : PySem.W.Frag} {a b : Row} : RD K (rEqD K) (rowD a) (rowD b) (.bool (decide (a = b))) := by
  have z := rd_eqD (K := K) (shaped_row a) (shaped_row b)
  rw [eqv_row] at z
  exact z
theorem rd_neRow {K : PySem.W.Frag} {a b : Row} : RD K (rNeD K) (rowD a) (rowD b) (.bool (!decide (a = b))) := by
  have z := rd_neD (K := K) (shaped_row a) (shaped_row b)
  rw [eqv_row] at z
  exact z
end Evr
set_option Elab.async false
set_option linter.all false
set_option maxRecDepth 100000
set_option maxHeartbeats 4000000
/-! Dicts of ints by ints as slots. -/
namespace Evr
open PySem PySem.Spec PyProof.Rows L2
abbrev pairD (kv : Int × Int) : PyData := .tuple [.int kv.1, .int kv.2]
theorem inl_iff {a b : Int} : decide ((Sum.inl a : Key) = Sum.inl b) = decide (a = b) := by
  by_cases h : a = b
  · subst h; simp
  · rw [decide_eq_false h, decide_eq_false fun z => h (Sum.inl.inj z)]
theorem val_wt (k : Int) : ∀ w : List (Int × Int), valV (wtK w) (.inl k) = (w.find? fun kv => decide (kv.1 = k)).map fun kv => V.int kv.2
  | [] => rfl
  | x :: w => by
    rw [List.find?_cons]
    by_cases h : x.1 = k
    · rw [decide_eq_true h]
      exact valV_pos (p := ((.inl x.1 : Key), V.int x.2)) (congrArg Sum.inl h)
    · rw [decide_eq_false h]
      exact (valV_neg (p := ((.inl x.1 : Key), V.int x.2)) (fun z => h (Sum.inl.inj z))).trans (val_wt k w)
theorem get_wt (w : List (Int × Int)) (k : Int) : (valV (wtK w) (.inl k)).getD (.int 0) = .int (getI w k) := by
  rw [val_wt]
  unfold getI
  cases w.find? fun kv => decide (kv.1 = k) <;> rfl
theorem put_wt (w : List (Int × Int)) (k v : Int) : putK (wtK w) (.inl k) (.int v) = wtK (putI w k v) := by
  have ha : ((wtK w).any fun kv => decide (kv.1 = (Sum.inl k : Key))) = w.any fun kv => decide (kv.1 = k) := by
    rw [List.any_map]
    congr 1
    funext x
    exact inl_iff
  unfold putK putI
  rw [ha]
  by_cases h : (w.any fun kv => decide (kv.1 = k)) = true
  · rw [if_pos h, if_pos h, List.map_map]
    show _ = List.map _ (List.map _ w)
    rw [List.map_map]
    congr 1
    funext x
    show (if (Sum.inl x.1 : Key) = Sum.inl k then ((Sum.inl x.1 : Key), V.int v) else (.inl x.1, .int x.2)) = _
    by_cases e : x.1 = k
    · rw [if_pos (congrArg _ e)]
      show _ = (fun kv : Int × Int => ((.inl kv.1 : Key), V.int kv.2)) (if x.1 = k then (x.1, v) else x)
      rw [if_pos e]
    · rw [if_neg (fun z => e (Sum.inl.inj z))]
      show _ = (fun kv : Int × Int => ((.inl kv.1 : Key), V.int kv.2)) (if x.1 = k then (x.1, v) else x)
      rw [if_neg e]
  · rw [if_neg h, if_neg h]
    show _ = List.map _ (w ++ [(k, v)])
    rw [List.map_append]
    rfl
/-! sorted -/
theorem insB_perm (x : Int × Int) : ∀ r : List (Int × Int), (insB x r).Perm (x :: r)
  | [] => List.Perm.refl _
  | y :: r => by
    unfold insB
    split
    · exact List.Perm.refl _
    · exact ((insB_perm x r).cons y).trans (List.Perm.swap x y r)
theorem sortB_perm : ∀ r : List (Int × Int), (sortB r).Perm r
  | [] => List.Perm.refl _
  | x :: r => (insB_perm x (sortB r)).trans ((sortB_perm r).cons x)
theorem insB_sorted (x : Int × Int) : ∀ r : List (Int × Int), r.Pairwise (fun a b => a.1 ≤ b.1) → (insB x r).Pairwise (fun a b => a.1 ≤ b.1)
  | [], _ => List.pairwise_singleton _ _
  | y :: r, h => by
    have h' := List.pairwise_cons.mp h
    unfold insB
    split
    · rename_i hle
      refine List.pairwise_cons.mpr ⟨fun z hz => ?_, h⟩
      rcases List.mem_cons.mp hz with e | hz
      · rw [e]; exact hle
      · exact Int.le_trans hle (h'.1 z hz)
    · rename_i hle
      refine List.pairwise_cons.mpr ⟨fun z hz => ?_, insB_sorted x r h'.2⟩
      rcases List.mem_cons.mp ((insB_perm x r).mem_iff.mp hz) with e | hz
      · rw [e]; omega
      · exact h'.1 z hz
theorem sortB_sorted : ∀ r : List (Int × Int), (sortB r).Pairwise (fun a b => a.1 ≤ b.1)
  | [] => .nil
  | x :: r => insB_sorted x _ (sortB_sorted r)
theorem asc_uniq : ∀ {l m : List (Int × Int)}, l.Perm m → l.Pairwise (fun a b => a.1 < b.1) → m.Pairwise (fun a b => a.1 < b.1) → l = m
  | [], m, h, _, _ => (List.Perm.eq_nil h.symm).symm
  | x :: l, [], h, _, _ => absurd h.length_eq (by simp)
  | x :: l, y :: m, h, h1, h2 => by
    have h1' := List.pairwise_cons.mp h1
    have h2' := List.pairwise_cons.mp h2
    have e : x = y := by
      rcases List.mem_cons.mp (h.mem_iff.mp List.mem_cons_self) with e | hx
      · exact e
      · rcases List.mem_cons.mp (h.mem_iff.mpr List.mem_cons_self) with e | hy
        · exact e.symm
        · have a := h2'.1 x hx
          have b := h1'.1 y hy
          omega
    subst e
    rw [asc_uniq h.cons_inv h1'.2 h2'.2]
theorem asc_of {l : List (Int × Int)} (h : l.Pairwise (fun a b => a.1 ≤ b.1)) (nd : (l.map (·.1)).Nodup) : l.Pairwise (fun a b => a.1 < b.1) :=
  List.Pairwise.imp (fun {a b} x => by omega) (List.Pairwise.and h (List.pairwise_map.mp nd))
theorem sortB_is {l w : List (Int × Int)} (h : l.Perm w) (hs : l.Pairwise (fun a b => a.1 ≤ b.1)) (nd : (w.map (·.1)).Nodup) : l = sortB w :=
  asc_uniq (h.trans (sortB_perm w).symm) (asc_of hs ((h.map (·.1)).nodup_iff.mpr nd)) (asc_of (sortB_sorted w) (((sortB_perm w).map (·.1)).nodup_iff.mpr nd))
theorem okW_iff {w : List (Int × Int)} (h : okW w = true) : w.length < 64 ∧ (∀ kv ∈ w, (0 ≤ kv.1 ∧ kv.1 < bigB) ∧ (0 ≤ kv.2 ∧ kv.2 < bigB)) ∧ (w.map (·.1)).Nodup := by
  unfold okW at h
  rw [Bool.and_eq_true, Bool.and_eq_true] at h
  refine ⟨of_decide_eq_true h.1.1, fun kv hkv => ?_, of_decide_eq_true h.2⟩
  have q := List.all_eq_true.mp h.1.2 kv hkv
  rw [Bool.and_eq_true, Bool.and_eq_true, Bool.and_eq_true] at q
  exact ⟨⟨of_decide_eq_true q.1.1.1, of_decide_eq_true q.1.1.2⟩, of_decide_eq_true q.1.2, of_decide_eq_true q.2⟩
section
variable {K : PySem.W.Frag} {c : Cxt} {Γ : List Sl} {te ti tx ty : TE} {D : Ends} {i : Nat} {w : List (Int × Int)}
theorem go_dnew (k : Go K c (Γ.set i (.obj (dkI []))) D.nx) : Go K c Γ (tAsg tDNewK (gName i) D) := fun H0 σ H a x p hp =>
  k H0 _ _ (a.write (a.s.free hp) (a.i.free hp)) (x.setObj hp (a.s.free hp) fun vs z => by cases z)
theorem ed_dget {k : Int} (e : Γ[i]? = some (.obj (dkI w))) (hk : EvD K ty Γ (.int k)) (hx : EvD K tx Γ (.int 0)) : EvD K (tDGet2 (tVar i) ty tx) Γ (.int (getI w k)) := fun hh H0 σ H x Q q => by
  obtain ⟨p, e1, n1, n0, l, _⟩ := x.getObj e
  refine ⟨_, e1, p, rfl, .inl ⟨_, Rd.of l⟩, ?_⟩
  refine hk hh H0 σ H x _ fun v H1 H' a e2 => hx hh H1 σ H' (x.adv a) _ fun z H2 H'' a2 e3 => ?_
  refine ⟨valV (wtK w) (.inl k), .inl ⟨_, .inl k, Rd.of (a2.s _ _ (a.s _ _ l)), dp_int e2, rfl⟩, ?_⟩
  rw [dp_int e3, get_wt]
  exact q _ _ _ (a.trans a2) (.int _)
theorem go_dput {k v : Int} (e : Γ[i]? = some (.obj (dkI w))) (one : ∀ (j : Nat) u, Γ[j]? = some (.obj u) → j = i) (hl : w.length < 100000) (h : EvD K te Γ (.int v)) (hi : EvD K ti Γ (.int k)) (kk : Go K c (Γ.set i (.obj (dkI (putI w k v)))) D.nx) :
    Go K c Γ (tAsg te (gSub (tVar i) ti rSetD) D) := fun H0 σ H a x => by
  obtain ⟨p, e1, n1, n0, l, _⟩ := x.getObj e
  refine h c.h H0 σ H x _ fun z H1 H' a1 e2 => ⟨_, e1, ?_⟩
  refine hi c.h H1 σ H' (x.adv a1) _ fun y H2 H'' a2 e3 => ?_
  have n2 : H2 p = none := a2.n p (a1.n p n0 (by rw [l]; simp)) (by rw [a1.s _ _ l]; simp)
  refine ⟨p, _, rfl, .inl ⟨wtK w, .inl k, a2.s _ _ (a1.s _ _ l), dp_int e3, Nat.lt_of_lt_of_le (by rw [List.length_map]; exact hl) (show 100000 ≤ sizeLine by decide), rfl⟩, ?_⟩
  rw [dp_int e2, put_wt]
  exact kk H2 σ _ (((a.adv a1).adv a2).write n1 n2) (((x.adv a1).adv a2).writeObj e e1 one fun vs z => by cases z)
theorem adv_putZ : ∀ (zs : List (Addr × Int × Int)) {H0 H : Hp}, Same H0 H → (zs.map (·.1)).Nodup → (∀ z ∈ zs, H z.1 = none) → Adv H0 H (putZ H0 zs) (putZ H zs)
  | [], _, _, s, _, _ => Adv.refl s
  | z :: zs, H0, H, s, nd, f => by
    have nd' := List.nodup_cons.mp nd
    have a := Adv.new (o := .tup [.int z.2.1, .int z.2.2]) s (f z List.mem_cons_self)
    refine a.trans (adv_putZ zs a.i nd'.2 fun y hy => ?_)
    rw [upd_ne (fun e => nd'.1 (List.mem_map.mpr ⟨y, hy, e⟩))]
    exact f y (List.mem_cons_of_mem _ hy)
theorem en_sortIt (e : Γ[i]? = some (.obj (dkI w))) (ok : okW w = true) : EvN K (tSortIt (tVar i)) Γ ((sortB w).map pairD) := fun hh H0 σ H x Q q => by
  obtain ⟨p, e1, n1, n0, l, _⟩ := x.getObj e
  obtain ⟨hl, hb, nd⟩ := okW_iff ok
  refine ⟨_, e1, p, w, rfl, l, hl, hb, fun zs ys r hz ndz fz fr hr pm pw => ?_⟩
  refine q r _ _ _ (adv_putZ zs x.i ndz fz) (by rw [putZ_off zs H hr]; exact fr) ?_
  have es : ys.map (·.2) = sortB w := by
    refine sortB_is (by rw [← hz]; exact pm.map (·.2)) (List.pairwise_map.mpr (List.Pairwise.imp_of_mem (fun {a b} ha hb' hle => ?_) pw)) nd
    have h1 := hb a.2 (by rw [← hz]; exact List.mem_map.mpr ⟨a, pm.mem_iff.mp ha, rfl⟩)
    have h2 := hb b.2 (by rw [← hz]; exact List.mem_map.mpr ⟨b, pm.mem_iff.mp hb', rfl⟩)
    have cc : ∀ u v : Int, TS.code bigB [u, v] = u * bigB + v := fun u v => by
      show u * bigB ^ 1 + (v * bigB ^ 0 + 0) = u * bigB + v
      rw [show bigB ^ 1 = bigB from rfl, show bigB ^ 0 = 1 from rfl, Int.mul_one, Int.add_zero]
    have c1 := cc a.2.1 a.2.2
    have c2 := cc b.2.1 b.2.2
    rw [c1, c2] at hle
    simp only [bigB] at hle h1 h2
    omega
  rw [← es, List.map_map]
  have all : ∀ us : List (Addr × Int × Int), (∀ u ∈ us, u ∈ zs) → DpAll K (putZ H0 zs) (us.map fun z => V.ref z.1) (us.map fun z => pairD z.2) := by
    intro us
    induction us with
    | nil => intro _; exact .nil
    | cons u us ih =>
      intro h
      exact .cons (.tup (SqT.of (putZ_at zs H0 ndz u (h u List.mem_cons_self))) (.cons (.int _) (.cons (.int _) .nil))) (ih fun v hv => h v (List.mem_cons_of_mem _ hv))
  exact all ys fun u hu => pm.mem_iff.mp hu
end
end Evr
set_option Elab.async false
set_option linter.all false
set_option maxRecDepth 100000
set_option maxHeartbeats 4000000
/-! sorted(set(xs)) of ints. -/
namespace Evr
open PySem PySem.Spec PyProof.Rows L2
def insU (x : Int) : List Int → List Int
  | [] => [x]
  | y :: r => if x < y then x :: y :: r else if x = y then y :: r else y :: insU x r
def sortU : List Int → List Int
  | [] => []
  | x :: r => insU x (sortU r)
theorem insU_mem (x : Int) : ∀ (r : List Int) (k : Int), k ∈ insU x r ↔ k = x ∨ k ∈ r
  | [], k => by simp [insU]
  | y :: r, k => by
    unfold insU
    split
    · simp
    · split
      · rename_i e
        subst e
        simp
      · rw [List.mem_cons, insU_mem x r k, List.mem_cons]
        constructor
        · rintro (h | h | h)
          · exact .inr (.inl h)
          · exact .inl h
          · exact .inr (.inr h)
        · rintro (h | h | h)
          · exact .inr (.inl h)
          · exact .inl h
          · exact .inr (.inr h)
theorem insU_asc (x : Int) : ∀ r : List Int, r.Pairwise (· < ·) → (insU x r).Pairwise (· < ·)
  | [], _ => List.pairwise_singleton _ _
  | y :: r, h => by
    have h' := List.pairwise_cons.mp h
    unfold insU
    split
    · rename_i lt
      refine List.pairwise_cons.mpr ⟨fun z hz => ?_, h⟩
      rcases List.mem_cons.mp hz with e | hz
      · rw [e]; exact lt
      · exact Int.lt_trans lt (h'.1 z hz)
    · split
      · exact h
      · refine List.pairwise_cons.mpr ⟨fun z hz => ?_, insU_asc x r h'.2⟩
        rcases (insU_mem x r z).mp hz with e | hz
        · rw [e]; omega
        · exact h'.1 z hz
theorem sortU_asc : ∀ r : List Int, (sortU r).Pairwise (· < ·)
  | [] => .nil
  | x :: r => insU_asc x _ (sortU_asc r)
theorem sortU_mem : ∀ (r : List Int) (k : Int), k ∈ sortU r ↔ k ∈ r
  | [], k => Iff.rfl
  | x :: r, k => by
    show k ∈ insU x (sortU r) ↔ _
    rw [insU_mem, sortU_mem r k, List.mem_cons]
theorem ascI_uniq : ∀ {l m : List Int}, (∀ k, k ∈ l ↔ k ∈ m) → l.Pairwise (· < ·) → m.Pairwise (· < ·) → l = m
  | [], [], _, _, _ => rfl
  | [], y :: m, h, _, _ => absurd ((h y).mpr List.mem_cons_self) (by simp)
  | x :: l, [], h, _, _ => absurd ((h x).mp List.mem_cons_self) (by simp)
  | x :: l, y :: m, h, h1, h2 => by
    have h1' := List.pairwise_cons.mp h1
    have h2' := List.pairwise_cons.mp h2
    have e : x = y := by
      rcases List.mem_cons.mp ((h x).mp List.mem_cons_self) with e | hx
      · exact e
      · rcases List.mem_cons.mp ((h y).mpr List.mem_cons_self) with e | hy
        · exact e.symm
        · have a := h2'.1 x hx
          have b := h1'.1 y hy
          omega
    subst e
    rw [ascI_uniq (fun k => ?_) h1'.2 h2'.2]
    have q := h k
    rw [List.mem_cons, List.mem_cons] at q
    constructor
    · intro hk
      rcases q.mp (.inr hk) with e | e
      · have := h1'.1 k hk
        omega
      · exact e
    · intro hk
      rcases q.mpr (.inr hk) with e | e
      · have := h2'.1 k hk
        omega
      · exact e
def undM (ns : List Int) : List Int := (sortU ns).filter fun n => !(((sortU ns).filterMap fun o => if o < n then some (decide (n % o = 0)) else none).any id)
theorem undM_nil (ns : List Int) : decide (undM ns = []) = decide (ns = []) := by
  cases ns with
  | nil => rfl
  | cons x r =>
    have hne : sortU (x :: r) ≠ [] := fun e => by
      have := (sortU_mem (x :: r) x).mpr List.mem_cons_self
      rw [e] at this
      cases this
    have key : undM (x :: r) ≠ [] := by
      unfold undM
      have ha := sortU_asc (x :: r)
      generalize sortU (x :: r) = l at hne ha
      cases l with
      | nil => exact absurd rfl hne
      | cons y m =>
        have ha' := List.pairwise_cons.mp ha
        have hf : (y :: m).filterMap (fun o => if o < y then some (decide (y % o = 0)) else none) = [] := by
          rw [List.filterMap_eq_nil_iff]
          intro o ho
          rcases List.mem_cons.mp ho with e | ho
          · rw [e, if_neg (Int.lt_irrefl _)]
          · have := ha'.1 o ho
            rw [if_neg (by omega)]
        intro e
        have hm : y ∈ (y :: m).filter fun n => !(((y :: m).filterMap fun o => if o < n then some (decide (n % o = 0)) else none).any id) := by
          rw [List.mem_filter]
          refine ⟨List.mem_cons_self, ?_⟩
          show (!(((y :: m).filterMap fun o => if o < y then some (decide (y % o = 0)) else none).any id)) = true
          rw [hf]
          rfl
        rw [e] at hm
        cases hm
    rw [decide_eq_false key, decide_eq_false (by simp)]
section
variable {K : PySem.W.Frag} {w : World} {Γ : List Sl} {te : TE}
theorem en_sortSet {ns : List Int} (h : EvD K te Γ (.list (rowsI ns))) (hl : ns.length < 64) : EvN K (tCB (rSortedSet w) (tCons (tCB (rSetIL K w) (tCons te tNil)) tNil)) Γ (rowsI (sortU ns)) := fun hh H0 σ H x Q q =>
  h hh H0 σ H x _ fun v H1 H' a e => by
    obtain ⟨l, xs, rfl, hs, ha⟩ := dp_lst e
    rw [dps_intsV ha] at hs
    refine ⟨l, ns, rfl, a.i.seq hs, hl, fun s c hn hc => ?_⟩
    have a2 := a.trans (Adv.new (o := SetO w s (fun j => decide (j ∈ ns)) c) a.i hn)
    refine ⟨s, _, c, rfl, upd_same, Nat.lt_of_le_of_lt hc hl, fun ms p h1 h2 _ hp => ?_⟩
    have e : ms = sortU ns := ascI_uniq (fun k => by rw [h2 k, sortU_mem, decide_eq_true_iff]) h1 (sortU_asc ns)
    subst e
    exact q p _ _ _ a2 hp (dps_ints _)
end
end Evr
set_option Elab.async false
set_option linter.all false
set_option maxRecDepth 100000
set_option maxHeartbeats 4000000
namespace Evr
open PySem PySem.Spec PyProof.Rows L2
section
variable {P : Program} {w : World} {K : PySem.W.Frag} {mg : Str → Option Value} {base : Heap} {f : Addr} {fd : FuncData}
/-! is_number, is_whole, is_prime of ints -/
def R_is_number : List PyData → PyData → Prop := fun ds r => ∃ i, ds = [.int i] ∧ r = .bool true
theorem sc_is_number : FnScope ["value"] ["value"] (C8.fnScope s_is_number) := C8.fnScope_by (by decide +kernel)
theorem ok_is_number (T : Txt K mg) (F : C8.Def K mg "is_number" s_is_number f fd) (b : Binds K fd ["value"] []) : C8.Cal P w K mg base 1 "is_number" (PureF K R_is_number) [] := by
  refine cal_pure F b sc_is_number (fun ds r h => ?_) (fun cdv A outer s H E hr ds r h => ?_)
  · obtain ⟨i, rfl, _⟩ := h; rfl
  obtain ⟨i, rfl, rfl⟩ := h
  refine ⟨_, pss_one (ps_ret (pe_and (pe_callB call_isi (by rfl) T.isinstance_ (by decide +kernel) (pa_cons (pv 0) (pa_cons (pe_bltn (v := .ty "int") (by rfl) T.int_ (by decide +kernel) rfl) pa_nil)))
    (pe_one (pe_not (pe_callB call_isi (by rfl) T.isinstance_ (by decide +kernel) (pa_cons (pv 0) (pa_cons (pe_bltn (v := .ty "bool") (by rfl) T.bool_ (by decide +kernel) rfl) pa_nil))))))), fun c D k => ?_⟩
  exact go_ret (ed_and (b1 := true) (b2 := true) (ed_isiInt (ed_var rfl) (by decide +kernel)) fun _ => ed_not (b := false) (ed_isiInt (ed_var rfl) (by decide +kernel))) k
def R_is_whole : List PyData → PyData → Prop := fun ds r => ∃ v l h, ds = [.int v, .int l, .int h] ∧ r = .bool (decide (l ≤ v) && decide (v ≤ h))
theorem sc_is_whole : FnScope ["value", "low", "high"] ["value", "low", "high"] (C8.fnScope s_is_whole) := C8.fnScope_by (by decide +kernel)
theorem ok_is_whole (T : Txt K mg) (F : C8.Def K mg "is_whole" s_is_whole f fd) (b : Binds K fd ["value", "low", "high"] []) (c_is_number : C8.Cal P w K mg base 1 "is_number" (PureF K R_is_number) []) :
    C8.Cal P w K mg base 2 "is_whole" (PureF K R_is_whole) [] := by
  refine cal_pure F b sc_is_whole (fun ds r h => ?_) (fun cdv A outer s H E hr ds r h => ?_)
  · obtain ⟨_, _, _, rfl, _⟩ := h; rfl
  obtain ⟨v, l, h, rfl, rfl⟩ := h
  refine ⟨_, pss_one (ps_ret (pe_and (C8.pe_c c_is_number hr (by decide) (by rfl) (pa_cons (pv 0) pa_nil)) (pe_one (pe_chain op_le op_le (pv 1) (pv 0) (pv 2))))), fun c D k => ?_⟩
  exact go_ret (ed_and (b1 := true) (ed_call (ea_cons (ed_var rfl) ea_nil) ⟨_, rfl, rfl⟩) fun _ => ed_chain (ed_var rfl) (ed_var rfl) (ed_var rfl)) k
def R_is_prime : List PyData → PyData → Prop := fun ds r => ∃ v, ds = [.int v] ∧ r = .bool ([2, 3, 5].any fun y => decide (y = v))
theorem sc_is_prime : FnScope ["value"] ["value"] (C8.fnScope s_is_prime) := C8.fnScope_by (by decide +kernel)
theorem ok_is_prime (T : Txt K mg) (F : C8.Def K mg "is_prime" s_is_prime f fd) (b : Binds K fd ["value"] []) (c_is_number : C8.Cal P w K mg base 1 "is_number" (PureF K R_is_number) []) :
    C8.Cal P w K mg base 2 "is_prime" (PureF K R_is_prime) [] := by
  refine cal_pure F b sc_is_prime (fun ds r h => ?_) (fun cdv A outer s H E hr ds r h => ?_)
  · obtain ⟨_, rfl, _⟩ := h; rfl
  obtain ⟨v, rfl, rfl⟩ := h
  obtain ⟨a, hm, hp⟩ := T.primes_
  refine ⟨_, pss_one (ps_ret (pe_and (C8.pe_c c_is_number hr (by decide) (by rfl) (pa_cons (pv 0) pa_nil)) (pe_one (pe_cmpR op_in_seq (pv 0) (pe_glob (v := .ref a) (by rfl) hm rfl) rfl)))), fun c D k => ?_⟩
  exact go_ret (ed_and (b1 := true) (ed_call (ea_cons (ed_var rfl) ea_nil) ⟨_, rfl, rfl⟩) fun _ => ed_op (ed_var rfl) (ed_c hp) (rd_in (ns := [2, 3, 5]))) k
end
end Evr
set_option Elab.async false
set_option linter.all false
set_option maxRecDepth 100000
set_option maxHeartbeats 4000000
namespace Evr
open PySem PySem.Spec PyProof.Rows L2
section
variable {P : Program} {w : World} {K : PySem.W.Frag} {mg : Str → Option Value} {base : Heap} {f : Addr} {fd : FuncData}
/-! trimmed -/
def R_trimmed : List PyData → PyData → Prop := fun ds r => ∃ row : Row, ds = [.list (rowsI row)] ∧ row.length ≤ 1000 ∧ r = rowD (trimM row)
theorem sc_trimmed : FnScope ["row", "length"] ["row"] (C8.fnScope s_trimmed) := C8.fnScope_by (by decide +kernel)
theorem ok_trimmed (T : Txt K mg) (F : C8.Def K mg "trimmed" s_trimmed f fd) (b : Binds K fd ["row"] []) : C8.Cal P w K mg base 1 "trimmed" (PureF K R_trimmed) [] := by
  refine cal_pure F b sc_trimmed (fun ds r h => ?_) (fun cdv A outer s H E hr ds r h => ?_)
  · obtain ⟨_, rfl, _⟩ := h; rfl
  obtain ⟨row, rfl, hz, rfl⟩ := h
  refine ⟨_, pss_cons (ps_set (i := 1) sc_trimmed.nd rfl (.inl rfl) (pe_callB call_len_seq (by rfl) T.len_ PySem.boot_len (pa_cons (pv 0) pa_nil)))
    (pss_cons (ps_while PassesOwn.never (PW.pt (pw_and (pt_cmpR op_gt (pv 1) pe_int (nomark _)) (pw_and1 (pt_cmpR op_eq (pe_ix ix_list (pv 0) (pe_op op_sub (pv 1) pe_int) (fun _ _ => rfl)) pe_int (nomark _)))))
      (pss_one (ps_set (i := 1) sc_trimmed.nd rfl (.inl rfl) (pe_op op_sub (pv 1) pe_int))))
    (pss_one (ps_ret (pe_callTy call_tuple_of (by rfl) T.tuple_ (by decide +kernel) (pa_cons (pe_slice sl_list (pv 0) po_none (po_some (pv 1))) pa_nil))))), fun c D k => ?_⟩
  refine go_seq (go_asg (d := .int (row.length : Int)) ((ed_cb1 (ed_var rfl) rc_lenL).is (by rw [List.length_map])) ?_)
  refine go_seq (go_while (Inv := fun m Γ => m ≤ row.length ∧ trimM row = row.take (lenM row m) ∧ Γ = [.d (.list (rowsI row)), .d (.int (m : Int))]) row.length ⟨Nat.le_refl _, rfl, rfl⟩ ?_)
  rintro m Γ ⟨hm, he, rfl⟩
  have ret : lenM row m = m → Go K c [.d (.list (rowsI row)), .d (.int (m : Int))] (tRet (tCB (rTupQ K) (tCons (tSl (rSlL K) (tVar 0) tNoPart (tPart (tVar 1))) tNil)) D) := fun e => by
    rw [he, e] at k
    refine go_ret (ed_cb1 (EvN.toD (en_slL (ed_var rfl) eo_none (eo_some (ed_var rfl)))) rc_tupL) ?_
    rw [cut_take (by rw [List.length_map]; exact hm), ← List.map_take]
    exact k
  cases m with
  | zero =>
    refine ⟨_, et_and (b1 := decide ((0 : Int) < ((0 : Nat) : Int))) (b2 := false) (et_test (ed_ib (ed_var rfl) ed_int)) (fun q => absurd (of_decide_eq_true q) (by decide)), fun q => absurd q (by decide), fun _ => ret rfl⟩
  | succ m =>
    have hlt : m < row.length := hm
    refine ⟨_, et_and (b1 := decide ((0 : Int) < ((m + 1 : Nat) : Int))) (b2 := decide (row.getD m 0 = 0)) (et_test (ed_ib (ed_var rfl) ed_int)) (fun _ => et_test (ed_op (ed_op (ed_var rfl) (ed_i0 (ed_var rfl) ed_int) (rd_ixL (at_int (j := m) (by omega) hlt))) ed_int rd_eqI)), fun q => ?_, fun q => ?_⟩
    · have q2 : row.getD m 0 = 0 := by
        rw [Bool.and_eq_true] at q
        exact of_decide_eq_true q.2
      refine go_asg (d := .int (m : Int)) ((ed_i0 (ed_var rfl) ed_int).is (by show PyData.int (((m + 1 : Nat) : Int) - 1) = _; congr 1; omega)) (go_nxW (Nat.lt_succ_self m) ⟨Nat.le_of_lt hlt, ?_, rfl⟩)
      rw [he]
      show row.take (if row.getD m 0 = 0 then lenM row m else m + 1) = _
      rw [if_pos q2]
    · refine ret ?_
      have q2 : ¬ row.getD m 0 = 0 := fun z => by
        rw [z, Bool.and_eq_false_iff] at q
        rcases q with q | q
        · exact absurd (of_decide_eq_false q) (by omega)
        · exact absurd rfl (of_decide_eq_false q)
      show (if row.getD m 0 = 0 then lenM row m else m + 1) = _
      rw [if_neg q2]
/-! inverse -/
def R_inverse : List PyData → PyData → Prop := fun ds r => ∃ p c o, ds = [.int p, .int c] ∧ 0 < p ∧ p ≤ 1000 ∧ invM p c = some o ∧ r = .int o
theorem sc_inverse : FnScope ["prime", "colour", "other"] ["prime", "colour"] (C8.fnScope s_inverse) := C8.fnScope_by (by decide +kernel)
theorem inv_rng {p c o : Int} (h : invM p c = some o) : 0 ≤ o ∧ o < p ∨ p ≤ 0 := by
  unfold invM at h
  have hm := List.mem_of_mem_head? h
  have hm := (List.mem_filter.mp hm).1
  unfold intsTo at hm
  obtain ⟨i, hi, rfl⟩ := List.mem_map.mp hm
  have := List.mem_range.mp hi
  omega
theorem ok_inverse (T : Txt K mg) (F : C8.Def K mg "inverse" s_inverse f fd) (b : Binds K fd ["prime", "colour"] []) : C8.Cal P w K mg base 1 "inverse" (PureF K R_inverse) [] := by
  refine cal_pure F b sc_inverse (fun ds r h => ?_) (fun cdv A outer s H E hr ds r h => ?_)
  · obtain ⟨_, _, _, rfl, _⟩ := h; rfl
  obtain ⟨p, cc, o, rfl, hp, hp2, ho, rfl⟩ := h
  refine ⟨_, pss_one (ps_ret (pe_ix ix_list (pe_lc (own := [("other", 2)]) (g := gName 2) (by rfl) sc_inverse.nd (pi_range1 (by rfl) T.range_ (pa_cons (pv 0) pa_nil)) (blkOk_by (N := ["prime", "colour", "other"]) (sc := C8.fnScope s_inverse) (by decide +kernel))
    (fun _ _ _ _ _ => pg_name (i := 2) sc_inverse.nd rfl (.inl rfl)) (fun _ _ _ _ _ => pts_one (pt_cmpR op_eq (pe_op op_mod (pe_op op_mul (pv 2) (pv 1)) (pv 0)) pe_int (nomark _))) (fun _ _ _ _ _ => pv 2)) pe_int (fun _ _ => rfl))), fun c D k => ?_⟩
  refine go_ret (ed_op (EvN.toD (en_lc (fun d => match d with | .int o => if o * cc % p = 1 then some (.int o) else none | _ => none) (it_range1 (ea_cons (ed_var rfl) ea_nil) (by omega) (by omega)) (by rw [rangeD_len]; omega) fun i d e => ?_)) ed_int (rd_ixL (d := .int o) ?_)) k
  · rw [rangeD, List.getElem?_map] at e
    cases hi : (List.range p.toNat)[i]? with
    | none => rw [hi] at e; cases e
    | some j =>
      rw [hi] at e
      cases e
      have hj : j < p.toNat := by
        have := List.mem_of_getElem? hi
        exact List.mem_range.mp this
      refine ⟨_, tw_name (by decide), decide ((0 + (j : Int)) * cc % p = 1), et_test (ed_op (ed_i (ed_i (ed_var rfl) (ed_var rfl) (.inl ⟨?_, ?_⟩)) (ed_var rfl) hp) ed_int rd_eqI), fun q => ⟨_, if_pos (of_decide_eq_true q), ed_var rfl⟩, fun q => if_neg (of_decide_eq_false q)⟩
      · omega
      · have : ((j : Nat) : Int) < 1000 := by omega
        show 0 + ((j : Nat) : Int) < 18446744073709551616
        omega
  · refine atI_head ?_
    rw [rangeD_ints, filterMap_map_int (f := fun o => if o * cc % p = 1 then some o else none) (fun x => by show (if x * cc % p = 1 then some (PyData.int x) else none) = _; split <;> rfl)]
    have e : (((List.range p.toNat).map fun i => (0 : Int) + ((i : Nat) : Int)).filterMap fun o => if o * cc % p = 1 then some o else none) = (intsTo 0 p).filter fun o => decide (o * cc % p = 1) := by
      rw [← List.filterMap_eq_filter]
      unfold intsTo
      rw [Int.sub_zero]
      congr 1
      funext x
      simp [Option.guard]
    rw [e, List.head?_map]
    unfold invM at ho
    rw [ho]
    rfl
end
end Evr
set_option Elab.async false
set_option linter.all false
set_option maxRecDepth 100000
set_option maxHeartbeats 4000000
namespace Evr
open PySem PySem.Spec PyProof.Rows L2
theorem EvN.is {K : PySem.W.Frag} {te : TE} {Γ : List Sl} {ds es : List PyData} (x : EvN K te Γ ds) (e : ds = es) : EvN K te Γ es := e ▸ x
theorem map_rows {f : PyData → PyData} {g : Int → Int} (h : ∀ x, f (.int x) = .int (g x)) (r : Row) : (rowsI r).map f = rowsI (r.map g) := by
  show (r.map PyData.int).map f = (r.map g).map PyData.int
  rw [List.map_map, List.map_map]
  congr 1
  funext x
  exact h x
theorem rep_rows (n : Nat) (z : Int) : List.replicate n (PyData.int z) = rowsI (List.replicate n z) := List.map_replicate.symm
theorem set_rows (r : Row) (j : Nat) (z : Int) : (rowsI r).set j (.int z) = rowsI (r.set j z) := List.map_set.symm
theorem len_rows (r : Row) : (rowsI r).length = r.length := List.length_map _
abbrev enumD (r : Row) : List PyData := pairsD ((List.range (rowsI r).length).map fun i => PyData.int (i : Nat)) (rowsI r)
theorem enumD_len (r : Row) : (enumD r).length = r.length := by
  rw [pairsD_len, List.length_map, List.length_range, Nat.min_self, len_rows]
theorem enumD_get {r : Row} {i : Nat} {d : PyData} (h : (enumD r)[i]? = some d) : i < r.length ∧ d = .tuple [.int (i : Nat), .int (r.getD i 0)] := by
  have hi : i < r.length := by
    have := (List.getElem?_eq_some_iff.mp h).1
    rw [enumD_len] at this
    exact this
  have z := pairsD_get ((List.range (rowsI r).length).map fun i => PyData.int (i : Nat)) (rowsI r) i (.int (i : Nat)) (.int (r.getD i 0)) (by rw [List.getElem?_map, List.getElem?_range (by rw [len_rows]; exact hi)]; rfl) (get_int hi)
  rw [z] at h
  exact ⟨hi, (Option.some.inj h).symm⟩
theorem drop_getD {r : Row} {i : Nat} (h : i < r.length) : r.drop i = r.getD i 0 :: r.drop (i + 1) := by
  rw [List.drop_eq_getElem_cons h, List.getD_eq_getElem?_getD, List.getElem?_eq_getElem h]
  rfl
theorem mod_small {p z : Int} (hp : 0 < p) (hp2 : p ≤ 1000) : -(2 ^ 64) < z % p ∧ z % p < 2 ^ 64 := by
  have h1 := Int.emod_nonneg z (Int.ne_of_gt hp)
  have h2 := Int.emod_lt_of_pos z hp
  constructor
  · show -18446744073709551616 < z % p
    omega
  · show z % p < 18446744073709551616
    omega
theorem smallI_iff {x : Int} (h : smallI x = true) : -(2 ^ 64) < x ∧ x < 2 ^ 64 := by
  unfold smallI at h
  rw [Bool.and_eq_true] at h
  exact ⟨of_decide_eq_true h.1, of_decide_eq_true h.2⟩
theorem mulIn_len (p x : Int) (i : Nat) : ∀ (ys : List Int) (j : Nat) (f : Row), (mulIn p x i ys j f).length = f.length
  | [], _, _ => rfl
  | _ :: ys, j, f => by
    show (mulIn p x i ys (j + 1) _).length = _
    rw [mulIn_len p x i ys, List.length_set]
theorem divIn_len (p q : Int) (n : Nat) : ∀ (ys : List Int) (j : Nat) (f : Row), (divIn p q n ys j f).length = f.length
  | [], _, _ => rfl
  | _ :: ys, j, f => by
    show (divIn p q n ys (j + 1) _).length = _
    rw [divIn_len p q n ys, List.length_set]
section
variable {K : PySem.W.Frag} {Γ : List Sl} {ta : TA}
def downD (lo : Int) (n : Nat) : List PyData := (List.range n).map fun i => .int (lo + (i : Nat) * (-1))
theorem downD_len {lo : Int} {n : Nat} : (downD lo n).length = n := by simp [downD]
theorem downD_get {lo : Int} {n i : Nat} {d : PyData} (h : (downD lo n)[i]? = some d) : i < n ∧ d = .int (lo - (i : Nat)) := by
  have hi : i < n := by
    have := (List.getElem?_eq_some_iff.mp h).1
    rw [downD_len] at this
    exact this
  have z : (downD lo n)[i]? = some (.int (lo + (i : Nat) * (-1))) := by simp [downD, hi]
  rw [z] at h
  refine ⟨hi, (Option.some.inj h).symm.trans ?_⟩
  congr 1
  omega
theorem dps_three {H : Hp} {d1 d2 d3 : PyData} {vs : List V} (h : DpAll K H vs [d1, d2, d3]) : ∃ v w z, vs = [v, w, z] ∧ Dp K H v d1 ∧ Dp K H w d2 ∧ Dp K H z d3 := by
  cases h with
  | cons r t =>
    obtain ⟨w, z, rfl, q, q2⟩ := dps_two t
    exact ⟨_, w, z, rfl, r, q, q2⟩
theorem it_down {lo hi : Int} (h : EaD K ta Γ [.int lo, .int hi, .int (-1)]) (h1 : lo ≤ 100000) (h2 : -100000 ≤ lo) (h3 : hi ≤ 100000) (h4 : -100000 ≤ hi) : ItD K (iRng3 ta) Γ (downD lo (lo - hi).toNat) := fun hh H0 σ H x R k => h hh H0 σ H x _ fun vs H1 H' a e => by
  obtain ⟨v, w, z, rfl, e1, e2, e3⟩ := dps_three e
  rw [dp_int e1, dp_int e2, dp_int e3]
  refine ⟨lo, hi, -1, _, rfl, RgC.neg (by omega) (by omega) (by omega) (by omega), k _ H1 H' a ⟨fun i H hi _ => ?_, fun H _ => ?_, fun i H v H' hi s y => ?_⟩⟩
  · rw [downD_len] at hi; exact hi
  · rw [downD_len]; exact Nat.le_refl _
  · rw [downD_len] at hi
    obtain ⟨rfl, rfl⟩ := y
    exact ⟨_, by simp [downD, hi], fun H0 s1 s2 => ⟨H0, Adv.refl s2, .int _⟩⟩
theorem ed_neg {te : TE} {i : Int} (h : EvD K te Γ (.int i)) : EvD K (tUn (rU fun i => .int (-i)) te) Γ (.int (-i)) := ed_un h fun H Q q => ⟨i, rfl, q⟩
end
section
variable {P : Program} {w : World} {K : PySem.W.Frag} {mg : Str → Option Value} {base : Heap} {f : Addr} {fd : FuncData}
def R_scaled : List PyData → PyData → Prop := fun ds r => ∃ (p : Int) (row : Row) (c : Int), ds = [.int p, rowD row, .int c] ∧ 0 < p ∧ smallI c = true ∧ row.length ≤ 1000 ∧ r = rowD (scaledM p row c)
theorem sc_scaled : FnScope ["prime", "row", "colour", "part"] ["prime", "row", "colour"] (C8.fnScope s_scaled) := C8.fnScope_by (by decide +kernel)
theorem ok_scaled (T : Txt K mg) (F : C8.Def K mg "scaled" s_scaled f fd) (b : Binds K fd ["prime", "row", "colour"] []) (c_trimmed : C8.Cal P w K mg base 1 "trimmed" (PureF K R_trimmed) []) : C8.Cal P w K mg base 2 "scaled" (PureF K R_scaled) [] := by
  refine cal_pure F b sc_scaled (fun ds r h => ?_) (fun cdv A outer s H E hr ds r h => ?_)
  · obtain ⟨_, _, _, rfl, _⟩ := h; rfl
  obtain ⟨p, row, cc, rfl, hp, hc, hz, rfl⟩ := h
  refine ⟨_, pss_one (ps_ret (C8.pe_c c_trimmed hr (by decide) (by rfl) (pa_cons (pe_lc (own := [("part", 3)]) (g := gName 3) (by rfl) sc_scaled.nd (pi_tup (pv 1)) (blkOk_by (N := ["prime", "row", "colour", "part"]) (sc := C8.fnScope s_scaled) (by decide +kernel))
    (fun _ _ _ _ _ => pg_name (i := 3) sc_scaled.nd rfl (.inl rfl)) (fun _ _ _ _ _ => pts_nil) (fun _ _ _ _ _ => pe_op op_mod (pe_op op_mul (pv 3) (pv 2)) (pv 0))) pa_nil))), fun c D k => ?_⟩
  refine go_ret (ed_call (ea_cons (EvN.toD (en_map (fun d => match d with | .int x => .int (x * cc % p) | d => d) (it_tup (ed_var rfl)) (by rw [List.length_map]; omega) fun i d e => ?_)) ea_nil) ⟨row.map fun x => x * cc % p, ?_, ?_, rfl⟩) k
  · rw [List.getElem?_map] at e
    cases hx : row[i]? with
    | none => rw [hx] at e; cases e
    | some x =>
      rw [hx] at e
      cases e
      exact ⟨_, tw_name (by decide), ts_nil, ed_i (ed_i (ed_var rfl) (ed_var rfl) (.inr (smallI_iff hc))) (ed_var rfl) hp⟩
  · rw [map_rows (g := fun x => x * cc % p) (fun x => rfl)]
  · rw [List.length_map]; exact hz
def R_monic : List PyData → PyData → Prop := fun ds r => ∃ (p : Int) (row m : Row), ds = [.int p, rowD row] ∧ 0 < p ∧ p ≤ 1000 ∧ row.length ≤ 1000 ∧ monicM p row = some m ∧ r = rowD m
theorem sc_monic : FnScope ["prime", "row"] ["prime", "row"] (C8.fnScope s_monic) := C8.fnScope_by (by decide +kernel)
theorem inv_small {p c o : Int} (hp2 : p ≤ 1000) (hp : 0 < p) (h : invM p c = some o) : smallI o = true := by
  unfold smallI
  rw [Bool.and_eq_true]
  rcases inv_rng h with h | h
  · exact ⟨decide_eq_true (by show -18446744073709551616 < o; omega), decide_eq_true (by show o < 18446744073709551616; omega)⟩
  · omega
theorem ok_monic (F : C8.Def K mg "monic" s_monic f fd) (b : Binds K fd ["prime", "row"] []) (c_inverse : C8.Cal P w K mg base 1 "inverse" (PureF K R_inverse) []) (c_scaled : C8.Cal P w K mg base 2 "scaled" (PureF K R_scaled) []) :
    C8.Cal P w K mg base 3 "monic" (PureF K R_monic) [] := by
  refine cal_pure F b sc_monic (fun ds r h => ?_) (fun cdv A outer s H E hr ds r h => ?_)
  · obtain ⟨_, _, _, rfl, _⟩ := h; rfl
  obtain ⟨p, row, m, rfl, hp, hp2, hz, hm, rfl⟩ := h
  unfold monicM at hm
  obtain ⟨l, hl, hm⟩ := Option.bind_eq_some_iff.mp hm
  obtain ⟨o, ho, hm⟩ := Option.bind_eq_some_iff.mp hm
  cases hm
  refine ⟨_, pss_one (ps_ret (C8.pe_c c_scaled hr (by decide) (by rfl) (pa_cons (pv 0) (pa_cons (pv 1) (pa_cons (C8.pe_c c_inverse hr (by decide) (by rfl) (pa_cons (pv 0) (pa_cons (pe_ix ix_tup (pv 1) (pe_un un_neg pe_int) (fun _ _ => rfl)) pa_nil))) pa_nil))))), fun c D k => ?_⟩
  exact go_ret (ed_call (ea_cons (ed_var rfl) (ea_cons (ed_var rfl) (ea_cons (ed_call (ea_cons (ed_var rfl) (ea_cons (ed_op (ed_var rfl) (ed_neg ed_int) (rd_ixT (at_last hl))) ea_nil)) ⟨p, l, o, rfl, hp, hp2, ho, rfl⟩) ea_nil))) ⟨p, row, o, rfl, hp, inv_small hp2 hp ho, hz, rfl⟩) k
def R_timesed : List PyData → PyData → Prop := fun ds r => ∃ (p : Int) (a b m : Row), ds = [.int p, rowD a, rowD b] ∧ 0 < p ∧ a.length ≤ 400 ∧ b.length ≤ 400 ∧ mulM p a b = some m ∧ r = rowD m
theorem sc_timesed : FnScope ["prime", "one", "other", "found", "at", "here", "beside", "there"] ["prime", "one", "other"] (C8.fnScope s_timesed) := C8.fnScope_by (by decide +kernel)
theorem ok_timesed (T : Txt K mg) (F : C8.Def K mg "timesed" s_timesed f fd) (b : Binds K fd ["prime", "one", "other"] []) (c_trimmed : C8.Cal P w K mg base 1 "trimmed" (PureF K R_trimmed) []) : C8.Cal P w K mg base 2 "timesed" (PureF K R_timesed) [] := by
  refine cal_pure F b sc_timesed (fun ds r h => ?_) (fun cdv A outer s H E hr ds r h => ?_)
  · obtain ⟨_, _, _, _, rfl, _⟩ := h; rfl
  obtain ⟨p, a, bb, m, rfl, hp, ha, hb, hm, rfl⟩ := h
  unfold mulM at hm
  split at hm
  case isFalse => cases hm
  case isTrue hsm =>
  cases hm
  refine ⟨_, pss_cons (ps_set (i := 3) sc_timesed.nd rfl (.inl rfl) (pe_op op_rep (pe_lst (pa_cons pe_int pa_nil)) (pe_op op_add (pe_callB call_len_seq (by rfl) T.len_ PySem.boot_len (pa_cons (pv 1) pa_nil)) (pe_callB call_len_seq (by rfl) T.len_ PySem.boot_len (pa_cons (pv 2) pa_nil)))))
    (pss_cons (ps_for PassesOwn.never rfl (pi_enT (by rfl) T.enumerate_ (pa_cons (pv 1) pa_nil)) (pg_tup rfl (pgs_cons (pg_name (i := 4) sc_timesed.nd rfl (.inl rfl)) (pgs_cons (pg_name (i := 5) sc_timesed.nd rfl (.inl rfl)) pgs_nil)))
      (pss_one (ps_for PassesOwn.never rfl (pi_enT (by rfl) T.enumerate_ (pa_cons (pv 2) pa_nil)) (pg_tup rfl (pgs_cons (pg_name (i := 6) sc_timesed.nd rfl (.inl rfl)) (pgs_cons (pg_name (i := 7) sc_timesed.nd rfl (.inl rfl)) pgs_nil)))
        (pss_one (ps_asg (pe_op op_mod (pe_op op_add (pe_ix ix_list (pv 3) (pe_op op_add (pv 4) (pv 6)) (fun _ _ => rfl)) (pe_op op_mul (pv 5) (pv 7))) (pv 0)) (pg_sub (pv 3) (pe_op op_add (pv 4) (pv 6)) set_list))))))
    (pss_one (ps_ret (C8.pe_c c_trimmed hr (by decide) (by rfl) (pa_cons (pv 3) pa_nil))))), fun c D k => ?_⟩
  have hn : ((a.length : Int) + (bb.length : Int)).toNat = a.length + bb.length := by omega
  refine go_seq (go_asgN ((en_rep (en_lst (ea_cons ed_int ea_nil) (by decide)) (ed_i0 (ed_cb1 (ed_var rfl) rc_lenT) (ed_cb1 (ed_var rfl) rc_lenT)) (by rw [len_rows, len_rows]; omega)).is (es := rowsI (List.replicate (a.length + bb.length) 0)) (by rw [len_rows, len_rows, hn, rep_rows])) ?_)
  refine go_seq (go_for (ds := enumD a) (Inv := fun i Γ => ∃ fr x4 x5 x6 x7, Γ = [.d (.int p), .d (rowD a), .d (rowD bb), .own (rowsI fr), x4, x5, x6, x7] ∧ fr.length = a.length + bb.length ∧ mulOut p bb (a.drop i) i fr = mulOut p bb a 0 (List.replicate (a.length + bb.length) 0))
    (it_enT (ea_cons (ed_var rfl) ea_nil)) ⟨_, _, _, _, _, rfl, List.length_replicate, rfl⟩ ?_ ?_)
  · rintro b0 hb0 i d Γi e ⟨fr, x4, x5, x6, x7, rfl, hlen, hfin⟩
    obtain ⟨hi, rfl⟩ := enumD_get e
    refine ⟨_, tg_tup (tgs_cons tg_name (tgs_cons tg_name tgs_nil)) rfl, ?_⟩
    refine go_for (ds := enumD bb) (Inv := fun j Γ => ∃ gr y6 y7, Γ = [.d (.int p), .d (rowD a), .d (rowD bb), .own (rowsI gr), .d (.int (i : Nat)), .d (.int (a.getD i 0)), y6, y7] ∧ gr.length = a.length + bb.length ∧ mulIn p (a.getD i 0) i (bb.drop j) j gr = mulIn p (a.getD i 0) i bb 0 fr)
      (it_enT (ea_cons (ed_var rfl) ea_nil)) ⟨fr, _, _, rfl, hlen, rfl⟩ ?_ ?_
    · rintro b1 hb1 j d Γj e ⟨gr, y6, y7, rfl, hlen2, hfin2⟩
      obtain ⟨hj, rfl⟩ := enumD_get e
      refine ⟨_, tg_tup (tgs_cons tg_name (tgs_cons tg_name tgs_nil)) rfl, ?_⟩
      have hij : i + j < gr.length := by omega
      have ez : ((i : Int) + (j : Int)) = ((i + j : Nat) : Int) := by omega
      have hsx := smallI_iff (List.all_eq_true.mp hsm _ (show a.getD i 0 ∈ a by
        rw [List.getD_eq_getElem?_getD, List.getElem?_eq_getElem hi]
        exact List.getElem_mem hi))
      refine go_setix (xs := rowsI gr) (z := (i : Int) + (j : Int)) (d := .int ((gr.getD (i + j) 0 + a.getD i 0 * bb.getD j 0) % p)) rfl (ed_i (ed_i0 (ed_ixOwn rfl (ed_i0 (ed_var rfl) (ed_var rfl)) (at_int ez hij)) (ed_i (ed_var rfl) (ed_var rfl) (.inl hsx))) (ed_var rfl) hp) (ed_i0 (ed_var rfl) (ed_var rfl)) (by omega) (by rw [len_rows]; omega) ?_
      refine go_nx ?_
      refine ⟨gr.set (i + j) ((gr.getD (i + j) 0 + a.getD i 0 * bb.getD j 0) % p), .d (.int (j : Nat)), .d (.int (bb.getD j 0)), ?_, ?_, ?_⟩
      · rw [show ((i : Int) + (j : Int)).toNat = i + j by omega, set_rows]
        rfl
      · rw [List.length_set]; exact hlen2
      · rw [← hfin2, drop_getD hj]
        rfl
    · rintro Γn ⟨gr, y6, y7, rfl, hlen2, hfin2⟩
      rw [enumD_len, List.drop_length] at hfin2
      refine go_nx ?_
      refine ⟨gr, _, _, _, _, rfl, hlen2, ?_⟩
      rw [← hfin, drop_getD hi]
      show _ = mulOut p bb (a.drop (i + 1)) (i + 1) (mulIn p (a.getD i 0) i bb 0 fr)
      rw [← hfin2]
      rfl
  · rintro Γn ⟨fr, x4, x5, x6, x7, rfl, hlen, hfin⟩
    rw [enumD_len, List.drop_length] at hfin
    refine go_freeze (i := 3) rfl (go_ret (ed_call (ea_cons (ed_var rfl) ea_nil) ⟨fr, rfl, by omega, rfl⟩) ?_)
    have e : fr = mulOut p bb a 0 (List.replicate (a.length + bb.length) 0) := hfin
    rw [e]
    exact k
end
end Evr
set_option Elab.async false
set_option linter.all false
set_option maxRecDepth 100000
set_option maxHeartbeats 4000000
namespace Evr
open PySem PySem.Spec PyProof.Rows L2
theorem divOut_fst_len (p over : Int) (b : Row) : ∀ (n : Nat) (rest found : Row), (divOut p over b n rest found).1.length = found.length
  | 0, _, _ => rfl
  | n + 1, rest, found => by
    show (divOut p over b n _ _).1.length = _
    rw [divOut_fst_len p over b n, List.length_set]
theorem divOut_snd_len (p over : Int) (b : Row) : ∀ (n : Nat) (rest found : Row), (divOut p over b n rest found).2.length = rest.length
  | 0, _, _ => rfl
  | n + 1, rest, found => by
    show (divOut p over b n _ _).2.length = _
    rw [divOut_snd_len p over b n, divIn_len]
theorem trimM_len (r : Row) : (trimM r).length ≤ r.length := by
  unfold trimM
  rw [List.length_take]
  exact Nat.min_le_right _ _
theorem divM_len {p : Int} {a b q r : Row} (h : divM p a b = some (q, r)) : q.length ≤ a.length + 1 ∧ r.length ≤ a.length := by
  unfold divM at h
  obtain ⟨l, _, h⟩ := Option.bind_eq_some_iff.mp h
  obtain ⟨o, _, h⟩ := Option.bind_eq_some_iff.mp h
  cases h
  refine ⟨Nat.le_trans (trimM_len _) ?_, Nat.le_trans (trimM_len _) ?_⟩
  · rw [divOut_fst_len, List.length_replicate]; omega
  · rw [divOut_snd_len]; exact Nat.le_refl _
theorem getLast_ne {r : Row} {l : Int} (h : r.getLast? = some l) : 0 < r.length := by
  cases r with
  | nil => cases h
  | cons _ _ => exact Nat.succ_pos _
theorem getD_set_self {r : Row} {n : Nat} {z : Int} (h : n < r.length) : (r.set n z).getD n 0 = z := by
  rw [List.getD_eq_getElem?_getD, List.getElem?_set_self h]
  rfl
section
variable {P : Program} {w : World} {K : PySem.W.Frag} {mg : Str → Option Value} {base : Heap} {f : Addr} {fd : FuncData}
def R_divided : List PyData → PyData → Prop := fun ds r => ∃ (p : Int) (a b q s : Row), ds = [.int p, rowD a, rowD b] ∧ 0 < p ∧ p ≤ 1000 ∧ a.length ≤ 900 ∧ b.length ≤ 900 ∧ divM p a b = some (q, s) ∧ r = .tuple [rowD q, rowD s]
abbrev N_divided : List Str := ["prime", "one", "other", "rest", "over", "found", "at", "beside", "part"]
theorem sc_divided : FnScope N_divided ["prime", "one", "other"] (C8.fnScope s_divided) := C8.fnScope_by (by decide +kernel)
theorem ok_divided (T : Txt K mg) (F : C8.Def K mg "divided" s_divided f fd) (b : Binds K fd ["prime", "one", "other"] []) (c_trimmed : C8.Cal P w K mg base 1 "trimmed" (PureF K R_trimmed) []) (c_inverse : C8.Cal P w K mg base 1 "inverse" (PureF K R_inverse) []) :
    C8.Cal P w K mg base 2 "divided" (PureF K R_divided) [] := by
  refine cal_pure F b sc_divided (fun ds r h => ?_) (fun cdv A outer s H E hr ds r h => ?_)
  · obtain ⟨_, _, _, _, _, rfl, _⟩ := h; rfl
  obtain ⟨p, a, bb, q, sr, rfl, hp, hp2, ha, hb, hm, rfl⟩ := h
  unfold divM at hm
  obtain ⟨l, hl, hm⟩ := Option.bind_eq_some_iff.mp hm
  obtain ⟨o, ho, hm⟩ := Option.bind_eq_some_iff.mp hm
  cases hm
  have hb0 := getLast_ne hl
  have so := smallI_iff (inv_small hp2 hp ho)
  refine ⟨_, pss_cons (ps_set (i := 3) sc_divided.nd rfl (.inl rfl) (pe_callTy call_list_of (by rfl) T.list_ (by decide +kernel) (pa_cons (pv 1) pa_nil)))
    (pss_cons (ps_set (i := 4) sc_divided.nd rfl (.inl rfl) (C8.pe_c c_inverse hr (by decide) (by rfl) (pa_cons (pv 0) (pa_cons (pe_ix ix_tup (pv 2) (pe_un un_neg pe_int) (fun _ _ => rfl)) pa_nil))))
    (pss_cons (ps_set (i := 5) sc_divided.nd rfl (.inl rfl) (pe_op op_rep (pe_lst (pa_cons pe_int pa_nil)) (pe_callB (call_max2 (by rfl)) (by rfl) T.max_ (by decide +kernel) (pa_cons pe_int (pa_cons (pe_op op_add (pe_op op_sub (pe_callB call_len_seq (by rfl) T.len_ PySem.boot_len (pa_cons (pv 1) pa_nil)) (pe_callB call_len_seq (by rfl) T.len_ PySem.boot_len (pa_cons (pv 2) pa_nil))) pe_int) pa_nil)))))
    (pss_cons (ps_for PassesOwn.never rfl (pi_range3 (by rfl) T.range_ (pa_cons (pe_op op_sub (pe_callB call_len_seq (by rfl) T.len_ PySem.boot_len (pa_cons (pv 5) pa_nil)) pe_int) (pa_cons (pe_un un_neg pe_int) (pa_cons (pe_un un_neg pe_int) pa_nil)))) (pg_name (i := 6) sc_divided.nd rfl (.inl rfl))
      (pss_cons (ps_asg (pe_op op_mod (pe_op op_mul (pe_ix ix_list (pv 3) (pe_op op_sub (pe_op op_add (pv 6) (pe_callB call_len_seq (by rfl) T.len_ PySem.boot_len (pa_cons (pv 2) pa_nil))) pe_int) (fun _ _ => rfl)) (pv 4)) (pv 0)) (pg_sub (pv 5) (pv 6) set_list))
      (pss_one (ps_for PassesOwn.never rfl (pi_enT (by rfl) T.enumerate_ (pa_cons (pv 2) pa_nil)) (pg_tup rfl (pgs_cons (pg_name (i := 7) sc_divided.nd rfl (.inl rfl)) (pgs_cons (pg_name (i := 8) sc_divided.nd rfl (.inl rfl)) pgs_nil)))
        (pss_one (ps_asg (pe_op op_mod (pe_op op_sub (pe_ix ix_list (pv 3) (pe_op op_add (pv 6) (pv 7)) (fun _ _ => rfl)) (pe_op op_mul (pe_ix ix_list (pv 5) (pv 6) (fun _ _ => rfl)) (pv 8))) (pv 0)) (pg_sub (pv 3) (pe_op op_add (pv 6) (pv 7)) set_list)))))))
    (pss_one (ps_ret (pe_tup (pa_cons (C8.pe_c c_trimmed hr (by decide) (by rfl) (pa_cons (pv 5) pa_nil)) (pa_cons (C8.pe_c c_trimmed hr (by decide) (by rfl) (pa_cons (pv 3) pa_nil)) pa_nil)))))))), fun c D k => ?_⟩
  generalize hn : a.length + 1 - bb.length = n at k
  refine go_seq (go_asgN (en_cb (ea_cons (ed_var rfl) ea_nil) rc_listT) ?_)
  refine go_seq (go_asg (d := .int o) (ed_call (ea_cons (ed_var rfl) (ea_cons (ed_op (ed_var rfl) (ed_neg ed_int) (rd_ixT (at_last hl))) ea_nil)) ⟨p, l, o, rfl, hp, hp2, ho, rfl⟩) ?_)
  refine go_seq (go_asgN (EvN.is (es := rowsI (List.replicate n 0)) (en_rep (en_lst (ea_cons ed_int ea_nil) (by decide)) (ed_cb (ea_cons ed_int (ea_cons (ed_i0 (ed_i0 (ed_cb1 (ed_var rfl) rc_lenT) (ed_cb1 (ed_var rfl) rc_lenT)) ed_int) ea_nil)) rc_max2) ?_) ?_) ?_)
  · rw [len_rows, len_rows]
    split <;> omega
  · rw [len_rows, len_rows, ← rep_rows]
    congr 1
    split <;> omega
  refine go_seq (go_for (ds := downD ((n : Int) - 1) (((n : Int) - 1) - (-1)).toNat) (Inv := fun i Γ => ∃ rest found x6 x7 x8, Γ = [.d (.int p), .d (rowD a), .d (rowD bb), .own (rowsI rest), .d (.int o), .own (rowsI found), x6, x7, x8] ∧
      i ≤ n ∧ rest.length = a.length ∧ found.length = n ∧ divOut p o bb (n - i) rest found = divOut p o bb n a (List.replicate n 0))
    (it_down (ea_cons ((ed_i0 (ed_lenOwn rfl) ed_int).is (by rw [len_rows, List.length_replicate])) (ea_cons (ed_neg ed_int) (ea_cons (ed_neg ed_int) ea_nil))) (by omega) (by omega) (by decide) (by decide))
    ⟨a, List.replicate n 0, _, _, _, rfl, Nat.zero_le _, rfl, List.length_replicate, rfl⟩ ?_ ?_)
  · rintro b0 hb0 i d Γi e ⟨rest, found, x6, x7, x8, rfl, hin, hl1, hl2, hfin⟩
    obtain ⟨hi, rfl⟩ := downD_get e
    have hi : i < n := by omega
    obtain ⟨m, hm⟩ : ∃ m, n - i = m + 1 := ⟨n - i - 1, by omega⟩
    have em : ((n : Int) - 1 - (i : Int)) = (m : Int) := by omega
    refine ⟨_, tg_name, ?_⟩
    rw [em]
    have hmb : m + bb.length - 1 < rest.length := by omega
    have qs := mod_small (z := rest.getD (m + bb.length - 1) 0 * o) hp hp2
    generalize hq : rest.getD (m + bb.length - 1) 0 * o % p = qq at qs
    refine go_seq (go_setix (xs := rowsI found) (z := (m : Int)) (d := .int qq) rfl ((ed_i (ed_i (ed_ixOwn (xs := rowsI rest) rfl (ed_i0 (ed_i0 (ed_var rfl) (ed_cb1 (ed_var rfl) rc_lenT)) ed_int) (at_int (j := m + bb.length - 1) (by rw [len_rows]; omega) hmb)) (ed_var rfl) (.inr so)) (ed_var rfl) hp).is (by rw [← hq])) (ed_var rfl) (by omega) (by rw [len_rows]; omega) ?_)
    rw [show ((m : Nat) : Int).toNat = m from Int.toNat_natCast m, set_rows]
    refine go_for (ds := enumD bb) (Inv := fun j Γ => ∃ gr y7 y8, Γ = [.d (.int p), .d (rowD a), .d (rowD bb), .own (rowsI gr), .d (.int o), .own (rowsI (found.set m qq)), .d (.int (m : Nat)), y7, y8] ∧ gr.length = a.length ∧ divIn p qq m (bb.drop j) j gr = divIn p qq m bb 0 rest)
      (it_enT (ea_cons (ed_var rfl) ea_nil)) ⟨rest, _, _, rfl, hl1, rfl⟩ ?_ ?_
    · rintro b1 hb1 j d Γj e ⟨gr, y7, y8, rfl, hlen2, hfin2⟩
      obtain ⟨hj, rfl⟩ := enumD_get e
      refine ⟨_, tg_tup (tgs_cons tg_name (tgs_cons tg_name tgs_nil)) rfl, ?_⟩
      have hij : m + j < gr.length := by omega
      have ez : ((m : Int) + (j : Int)) = ((m + j : Nat) : Int) := by omega
      refine go_setix (xs := rowsI gr) (z := (m : Int) + (j : Int)) (d := .int ((gr.getD (m + j) 0 - qq * bb.getD j 0) % p)) rfl
        (ed_i (ed_i0 (ed_ixOwn rfl (ed_i0 (ed_var rfl) (ed_var rfl)) (at_int ez hij)) (ed_i (ed_ixOwn (d := .int qq) rfl (ed_var rfl) ((at_int (j := m) rfl (by rw [List.length_set]; omega)).trans (by rw [getD_set_self (by omega)]))) (ed_var rfl) (.inl qs))) (ed_var rfl) hp) (ed_i0 (ed_var rfl) (ed_var rfl)) (by omega) (by rw [len_rows]; omega) ?_
      refine go_nx ?_
      refine ⟨gr.set (m + j) ((gr.getD (m + j) 0 - qq * bb.getD j 0) % p), .d (.int (j : Nat)), .d (.int (bb.getD j 0)), ?_, ?_, ?_⟩
      · rw [show ((m : Int) + (j : Int)).toNat = m + j by omega, set_rows]
        rfl
      · rw [List.length_set]; exact hlen2
      · rw [← hfin2, drop_getD hj]
        rfl
    · rintro Γn ⟨gr, y7, y8, rfl, hlen2, hfin2⟩
      rw [enumD_len, List.drop_length] at hfin2
      refine go_nx ?_
      refine ⟨gr, found.set m qq, _, _, _, rfl, hi, hlen2, by rw [List.length_set]; exact hl2, ?_⟩
      rw [← hfin, hm, show n - (i + 1) = m by omega]
      show _ = divOut p o bb m (divIn p (rest.getD (m + bb.length - 1) 0 * o % p) m bb 0 rest) (found.set m (rest.getD (m + bb.length - 1) 0 * o % p))
      rw [hq, ← hfin2]
      rfl
  · rintro Γn ⟨rest, found, x6, x7, x8, rfl, hin, hl1, hl2, hfin⟩
    rw [downD_len, show n - (((n : Int) - 1) - (-1)).toNat = 0 by omega] at hfin
    refine go_freeze (i := 5) rfl (go_freeze (i := 3) rfl (go_ret (ed_tup (ea_cons (ed_call (ea_cons (ed_var rfl) ea_nil) ⟨found, rfl, by omega, rfl⟩) (ea_cons (ed_call (ea_cons (ed_var rfl) ea_nil) ⟨rest, rfl, by omega, rfl⟩) ea_nil)) (by simp)) ?_))
    have e : (found, rest) = divOut p o bb n a (List.replicate n 0) := hfin
    rw [← e] at k
    exact k
end
end Evr
set_option Elab.async false
set_option linter.all false
set_option maxRecDepth 100000
set_option maxHeartbeats 4000000
namespace Evr
open PySem PySem.Spec PyProof.Rows L2
abbrev ruleD (r : Rule) : PyData := .tuple (r.map fun x => PyData.tuple [.int x.1, .int x.2])
theorem rd_odd {K : PySem.W.Frag} {n : Nat} : RD K (fun x y H Q => ∃ n : Nat, x = .int (n : Int) ∧ y = .int 1 ∧ Q (.int ((n % 2 : Nat) : Int)) H) (.int (n : Int)) (.int 1) (.int ((n % 2 : Nat) : Int)) := fun H0 H x y s e1 e2 Q q =>
  ⟨n, dp_int e1, dp_int e2, q _ _ _ (Adv.refl s) (.int _)⟩
theorem rd_half {K : PySem.W.Frag} {n : Nat} : RD K (fun x y H Q => ∃ n : Nat, x = .int (n : Int) ∧ y = .int 1 ∧ Q (.int ((n / 2 : Nat) : Int)) H) (.int (n : Int)) (.int 1) (.int ((n / 2 : Nat) : Int)) := fun H0 H x y s e1 e2 Q q =>
  ⟨n, dp_int e1, dp_int e2, q _ _ _ (Adv.refl s) (.int _)⟩
theorem fillM_len {l : Int} : ∀ {r : Rule} {f g : Row}, fillM l r f = some g → g.length = f.length
  | [], f, g, h => by
    cases h
    rfl
  | (o, a) :: r, f, g, h => by
    unfold fillM at h
    split at h
    · rw [fillM_len h, List.length_set]
    · cases h
section
variable {P : Program} {w : World} {K : PySem.W.Frag} {mg : Str → Option Value} {base : Heap} {f : Addr} {fd : FuncData}
def R_common_of_two : List PyData → PyData → Prop := fun ds r => ∃ (p : Int) (n : Nat) (a b g : Row), ds = [.int p, rowD a, rowD b] ∧ 0 < p ∧ p ≤ 1000 ∧ cotM p n a b = some g ∧ r = rowD g
theorem sc_common_of_two : FnScope ["prime", "one", "other"] ["prime", "one", "other"] (C8.fnScope s_common_of_two) := C8.fnScope_by (by decide +kernel)
theorem ok_common_of_two (F : C8.Def K mg "common_of_two" s_common_of_two f fd) (b : Binds K fd ["prime", "one", "other"] []) (c_monic : C8.Cal P w K mg base 3 "monic" (PureF K R_monic) []) (c_divided : C8.Cal P w K mg base 2 "divided" (PureF K R_divided) []) :
    C8.Cal P w K mg base 4 "common_of_two" (PureF K R_common_of_two) [] := by
  refine cal_pure F b sc_common_of_two (fun ds r h => ?_) (fun cdv A outer s H E hr ds r h => ?_)
  · obtain ⟨_, _, _, _, _, rfl, _⟩ := h; rfl
  obtain ⟨p, n, a, bb, g, rfl, hp, hp2, hm, rfl⟩ := h
  refine ⟨_, pss_cons (ps_while PassesOwn.never (pt_cmpR (op_neD hr.units) (pv 2) (pe_tup pa_nil) (nomark _)) (pss_one (ps_par (i := 1) (j := 2) (by rfl) sc_common_of_two.nd rfl rfl (by decide) rfl rfl (pa_cons (pv 2) (pa_cons (pe_ix ix_tup (C8.pe_c c_divided hr (by decide) (by rfl) (pa_cons (pv 0) (pa_cons (pv 1) (pa_cons (pv 2) pa_nil)))) pe_int (fun _ _ => rfl)) pa_nil)) (by rfl))))
    (pss_one (ps_ret (pe_ifExp (pt_cmpR (op_neD hr.units) (pv 1) (pe_tup pa_nil) (nomark _)) (C8.pe_c c_monic hr (by decide) (by rfl) (pa_cons (pv 0) (pa_cons (pv 1) pa_nil))) (pe_tup pa_nil)))), fun c D k => ?_⟩
  refine go_seq (go_while (Inv := fun m Γ => ∃ a b : Row, Γ = [.d (.int p), .d (rowD a), .d (rowD b)] ∧ cotM p m a b = some g) n ⟨a, bb, rfl, hm⟩ ?_)
  rintro m Γ ⟨a, bb, rfl, hm⟩
  refine ⟨_, et_test (ed_op (ed_var rfl) (ed_tup ea_nil (by decide)) (rd_neRow (a := bb) (b := []))), fun q => ?_, fun q => ?_⟩
  · cases bb with
    | nil => exact absurd q (by decide)
    | cons y ys =>
      cases m with
      | zero => cases hm
      | succ m =>
        unfold cotM at hm
        split at hm
        case isFalse => cases hm
        case isTrue hl =>
        obtain ⟨⟨qq, rr⟩, h1, h2⟩ := Option.bind_eq_some_iff.mp hm
        refine go_par (ea_cons (ed_var rfl) (ea_cons (ed_op (ed_call (ea_cons (ed_var rfl) (ea_cons (ed_var rfl) (ea_cons (ed_var rfl) ea_nil))) ⟨p, a, y :: ys, qq, rr, rfl, hp, hp2, by omega, by omega, h1, rfl⟩) ed_int (rd_ixT (d := rowD rr) rfl)) ea_nil)) ?_
        exact go_nxW (Nat.lt_succ_self m) ⟨y :: ys, rr, rfl, h2⟩
  · have e : bb = [] := by
      cases bb with
      | nil => rfl
      | cons y ys => exact absurd q (by simp)
    subst e
    have hm' : a.length ≤ 400 ∧ (if a = [] then some [] else monicM p a) = some g := by
      cases m <;>
      · unfold cotM at hm
        split at hm
        · rename_i hl
          exact ⟨hl, hm⟩
        · cases hm
    obtain ⟨hl, hm'⟩ := hm'
    refine go_ret (d := rowD g) (ed_if (et_test (ed_op (ed_var rfl) (ed_tup ea_nil (by decide)) (rd_neRow (a := a) (b := [])))) (fun q => ?_) (fun q => ?_)) k
    · have hne : a ≠ [] := fun z => by
        subst z
        exact absurd q (by decide)
      rw [if_neg hne] at hm'
      exact ed_call (ea_cons (ed_var rfl) (ea_cons (ed_var rfl) ea_nil)) ⟨p, a, g, rfl, hp, hp2, by omega, hm', rfl⟩
    · have e : a = [] := by
        cases a with
        | nil => rfl
        | cons y ys => exact absurd q (by simp)
      rw [if_pos e] at hm'
      cases hm'
      exact ed_tup ea_nil (by decide)
def R_gcd_of : List PyData → PyData → Prop := fun ds r => ∃ (p : Int) (rows : List Row) (g : Row), ds = [.int p, .list (rows.map rowD)] ∧ 0 < p ∧ p ≤ 1000 ∧ gcdM p rows = some g ∧ r = rowD g
theorem sc_gcd_of : FnScope ["prime", "rows", "found", "row"] ["prime", "rows"] (C8.fnScope s_gcd_of) := C8.fnScope_by (by decide +kernel)
theorem rows_get {rows : List Row} {i : Nat} {d : PyData} (h : (rows.map rowD)[i]? = some d) : ∃ r, rows[i]? = some r ∧ d = rowD r ∧ rows.drop i = r :: rows.drop (i + 1) := by
  rw [List.getElem?_map] at h
  cases q : rows[i]? with
  | none => rw [q] at h; cases h
  | some r =>
    rw [q] at h
    cases h
    obtain ⟨h1, h2⟩ := List.getElem?_eq_some_iff.mp q
    exact ⟨r, rfl, rfl, by rw [List.drop_eq_getElem_cons h1, h2]⟩
theorem ok_gcd_of (F : C8.Def K mg "gcd_of" s_gcd_of f fd) (b : Binds K fd ["prime", "rows"] []) (c_common_of_two : C8.Cal P w K mg base 4 "common_of_two" (PureF K R_common_of_two) []) : C8.Cal P w K mg base 5 "gcd_of" (PureF K R_gcd_of) [] := by
  refine cal_pure F b sc_gcd_of (fun ds r h => ?_) (fun cdv A outer s H E hr ds r h => ?_)
  · obtain ⟨_, _, _, rfl, _⟩ := h; rfl
  obtain ⟨p, rows, g, rfl, hp, hp2, hm, rfl⟩ := h
  refine ⟨_, pss_cons (ps_set (i := 2) sc_gcd_of.nd rfl (.inl rfl) (pe_tup pa_nil)) (pss_cons (ps_for PassesOwn.never rfl (pi_list (pv 1)) (pg_name (i := 3) sc_gcd_of.nd rfl (.inl rfl)) (pss_one (ps_set (i := 2) sc_gcd_of.nd rfl (.inl rfl) (C8.pe_c c_common_of_two hr (by decide) (by rfl) (pa_cons (pv 0) (pa_cons (pv 2) (pa_cons (pv 3) pa_nil)))))))
    (pss_one (ps_ret (pv 2)))), fun c D k => ?_⟩
  refine go_seq (go_asg (d := rowD []) (ed_tup ea_nil (by decide)) ?_)
  refine go_seq (go_for (Inv := fun i Γ => ∃ fr x3, Γ = [.d (.int p), .d (.list (rows.map rowD)), .d (rowD fr), x3] ∧ gcdF p fr (rows.drop i) = some g) (it_list (ed_var rfl)) ⟨[], _, rfl, hm⟩ ?_ ?_)
  · rintro b0 hb0 i d Γi e ⟨fr, x3, rfl, hf⟩
    obtain ⟨row, h1, rfl, h3⟩ := rows_get e
    rw [h3] at hf
    obtain ⟨z, h4, h5⟩ := Option.bind_eq_some_iff.mp (show (cotM p 20 fr row).bind (fun g => gcdF p g (rows.drop (i + 1))) = some g from hf)
    refine ⟨_, tg_name, ?_⟩
    refine go_asg (d := rowD z) (ed_call (ea_cons (ed_var rfl) (ea_cons (ed_var rfl) (ea_cons (ed_var rfl) ea_nil))) ⟨p, 20, fr, row, z, rfl, hp, hp2, h4, rfl⟩) ?_
    refine go_nx ?_
    exact ⟨z, _, rfl, h5⟩
  · rintro Γn ⟨fr, x3, rfl, hf⟩
    rw [List.length_map, List.drop_length] at hf
    cases hf
    exact go_ret (ed_var rfl) k
def R_lcm_of : List PyData → PyData → Prop := fun ds r => ∃ (p : Int) (rows : List Row) (g : Row), ds = [.int p, .list (rows.map rowD)] ∧ 0 < p ∧ p ≤ 1000 ∧ lcmM p rows = some g ∧ r = rowD g
theorem sc_lcm_of : FnScope ["prime", "rows", "found", "row", "quotient"] ["prime", "rows"] (C8.fnScope s_lcm_of) := C8.fnScope_by (by decide +kernel)
theorem ok_lcm_of (F : C8.Def K mg "lcm_of" s_lcm_of f fd) (b : Binds K fd ["prime", "rows"] []) (c_common_of_two : C8.Cal P w K mg base 4 "common_of_two" (PureF K R_common_of_two) []) (c_divided : C8.Cal P w K mg base 2 "divided" (PureF K R_divided) [])
    (c_timesed : C8.Cal P w K mg base 2 "timesed" (PureF K R_timesed) []) (c_monic : C8.Cal P w K mg base 3 "monic" (PureF K R_monic) []) : C8.Cal P w K mg base 5 "lcm_of" (PureF K R_lcm_of) [] := by
  refine cal_pure F b sc_lcm_of (fun ds r h => ?_) (fun cdv A outer s H E hr ds r h => ?_)
  · obtain ⟨_, _, _, rfl, _⟩ := h; rfl
  obtain ⟨p, rows, g, rfl, hp, hp2, hm, rfl⟩ := h
  refine ⟨_, pss_cons (ps_set (i := 2) sc_lcm_of.nd rfl (.inl rfl) (pe_tup (pa_cons pe_int pa_nil))) (pss_cons (ps_for PassesOwn.never rfl (pi_list (pv 1)) (pg_name (i := 3) sc_lcm_of.nd rfl (.inl rfl))
      (pss_cons (ps_set (i := 4) sc_lcm_of.nd rfl (.inl rfl) (pe_ix ix_tup (C8.pe_c c_divided hr (by decide) (by rfl) (pa_cons (pv 0) (pa_cons (pv 3) (pa_cons (C8.pe_c c_common_of_two hr (by decide) (by rfl) (pa_cons (pv 0) (pa_cons (pv 2) (pa_cons (pv 3) pa_nil)))) pa_nil)))) pe_int (fun _ _ => rfl)))
      (pss_one (ps_set (i := 2) sc_lcm_of.nd rfl (.inl rfl) (C8.pe_c c_monic hr (by decide) (by rfl) (pa_cons (pv 0) (pa_cons (C8.pe_c c_timesed hr (by decide) (by rfl) (pa_cons (pv 0) (pa_cons (pv 2) (pa_cons (pv 4) pa_nil)))) pa_nil)))))))
    (pss_one (ps_ret (pv 2)))), fun c D k => ?_⟩
  refine go_seq (go_asg (d := rowD [1]) (ed_tup (ea_cons ed_int ea_nil) (by simp)) ?_)
  refine go_seq (go_for (Inv := fun i Γ => ∃ fr x3 x4, Γ = [.d (.int p), .d (.list (rows.map rowD)), .d (rowD fr), x3, x4] ∧ lcmF p fr (rows.drop i) = some g) (it_list (ed_var rfl)) ⟨[1], _, _, rfl, hm⟩ ?_ ?_)
  · rintro b0 hb0 i d Γi e ⟨fr, x3, x4, rfl, hf⟩
    obtain ⟨row, h1, rfl, h3⟩ := rows_get e
    rw [h3] at hf
    unfold lcmF at hf
    split at hf
    case isFalse => cases hf
    case isTrue hl =>
    obtain ⟨z, h4, hf⟩ := Option.bind_eq_some_iff.mp hf
    split at hf
    case isFalse => cases hf
    case isTrue hl2 =>
    obtain ⟨⟨qq, rr⟩, h5, hf⟩ := Option.bind_eq_some_iff.mp hf
    obtain ⟨m, h6, hf⟩ := Option.bind_eq_some_iff.mp hf
    split at hf
    case isFalse => cases hf
    case isTrue hl3 =>
    obtain ⟨f', h7, hf⟩ := Option.bind_eq_some_iff.mp hf
    have hq := (divM_len h5).1
    refine ⟨_, tg_name, ?_⟩
    refine go_seq (go_asg (d := rowD qq) (ed_op (ed_call (ea_cons (ed_var rfl) (ea_cons (ed_var rfl) (ea_cons (ed_call (ea_cons (ed_var rfl) (ea_cons (ed_var rfl) (ea_cons (ed_var rfl) ea_nil))) ⟨p, 20, fr, row, z, rfl, hp, hp2, h4, rfl⟩) ea_nil))) ⟨p, row, z, qq, rr, rfl, hp, hp2, by omega, by omega, h5, rfl⟩) ed_int (rd_ixT (d := rowD qq) rfl)) ?_)
    refine go_asg (d := rowD f') (ed_call (ea_cons (ed_var rfl) (ea_cons (ed_call (ea_cons (ed_var rfl) (ea_cons (ed_var rfl) (ea_cons (ed_var rfl) ea_nil))) ⟨p, fr, qq, m, rfl, hp, by omega, by omega, h6, rfl⟩) ea_nil)) ⟨p, m, f', rfl, hp, hp2, hl3, h7, rfl⟩) ?_
    refine go_nx ?_
    exact ⟨f', _, _, rfl, hf⟩
  · rintro Γn ⟨fr, x3, x4, rfl, hf⟩
    rw [List.length_map, List.drop_length] at hf
    cases hf
    exact go_ret (ed_var rfl) k
end
end Evr
set_option Elab.async false
set_option linter.all false
set_option maxRecDepth 100000
set_option maxHeartbeats 4000000
namespace Evr
open PySem PySem.Spec PyProof.Rows L2
section
variable {P : Program} {w : World} {K : PySem.W.Frag} {mg : Str → Option Value} {base : Heap} {f : Addr} {fd : FuncData}
def R_power_of_x : List PyData → PyData → Prop := fun ds r => ∃ (p : Int) (n : Nat) (m g : Row), ds = [.int p, .int (n : Int), rowD m] ∧ 0 < p ∧ p ≤ 1000 ∧ powM p n m = some g ∧ r = rowD g
abbrev N_power_of_x : List Str := ["prime", "many", "modulus", "found", "square", "left"]
theorem sc_power_of_x : FnScope N_power_of_x ["prime", "many", "modulus"] (C8.fnScope s_power_of_x) := C8.fnScope_by (by decide +kernel)
theorem ok_power_of_x (F : C8.Def K mg "power_of_x" s_power_of_x f fd) (b : Binds K fd ["prime", "many", "modulus"] []) (c_divided : C8.Cal P w K mg base 2 "divided" (PureF K R_divided) []) (c_timesed : C8.Cal P w K mg base 2 "timesed" (PureF K R_timesed) []) :
    C8.Cal P w K mg base 3 "power_of_x" (PureF K R_power_of_x) [] := by
  refine cal_pure F b sc_power_of_x (fun ds r h => ?_) (fun cdv A outer s H E hr ds r h => ?_)
  · obtain ⟨_, _, _, _, rfl, _⟩ := h; rfl
  obtain ⟨p, n, m, g, rfl, hp, hp2, hm, rfl⟩ := h
  refine ⟨_, pss_cons (ps_set (i := 3) sc_power_of_x.nd rfl (.inl rfl) (pe_ix ix_tup (C8.pe_c c_divided hr (by decide) (by rfl) (pa_cons (pv 0) (pa_cons (pe_tup (pa_cons pe_int pa_nil)) (pa_cons (pv 2) pa_nil)))) pe_int (fun _ _ => rfl)))
    (pss_cons (ps_set (i := 4) sc_power_of_x.nd rfl (.inl rfl) (pe_ix ix_tup (C8.pe_c c_divided hr (by decide) (by rfl) (pa_cons (pv 0) (pa_cons (pe_tup (pa_cons pe_int (pa_cons pe_int pa_nil))) (pa_cons (pv 2) pa_nil)))) pe_int (fun _ _ => rfl)))
    (pss_cons (ps_set (i := 5) sc_power_of_x.nd rfl (.inl rfl) (pv 1))
    (pss_cons (ps_while PassesOwn.never (pt_cmpR op_gt (pv 5) pe_int (nomark _))
      (pss_cons (ps_if (pt_cmpR op_eq (pe_op op_odd (pv 5) pe_int) pe_int (nomark _)) (pss_one (ps_set (i := 3) sc_power_of_x.nd rfl (.inl rfl) (pe_ix ix_tup (C8.pe_c c_divided hr (by decide) (by rfl) (pa_cons (pv 0) (pa_cons (C8.pe_c c_timesed hr (by decide) (by rfl) (pa_cons (pv 0) (pa_cons (pv 3) (pa_cons (pv 4) pa_nil)))) (pa_cons (pv 2) pa_nil)))) pe_int (fun _ _ => rfl)))) pss_nil)
      (pss_cons (ps_set (i := 4) sc_power_of_x.nd rfl (.inl rfl) (pe_ix ix_tup (C8.pe_c c_divided hr (by decide) (by rfl) (pa_cons (pv 0) (pa_cons (C8.pe_c c_timesed hr (by decide) (by rfl) (pa_cons (pv 0) (pa_cons (pv 4) (pa_cons (pv 4) pa_nil)))) (pa_cons (pv 2) pa_nil)))) pe_int (fun _ _ => rfl)))
      (pss_one (ps_set (i := 5) sc_power_of_x.nd rfl (.inl rfl) (pe_op op_halfN (pv 5) pe_int))))))
    (pss_one (ps_ret (pv 3)))))), fun c D k => ?_⟩
  unfold powM at hm
  split at hm
  case isTrue => cases hm
  case isFalse hml =>
  obtain ⟨⟨a1, a2⟩, h1, hm⟩ := Option.bind_eq_some_iff.mp hm
  obtain ⟨⟨b1, b2⟩, h2, hm⟩ := Option.bind_eq_some_iff.mp hm
  refine go_seq (go_asg (d := rowD a2) (ed_op (ed_call (ea_cons (ed_var rfl) (ea_cons (ed_tup (ea_cons ed_int ea_nil) (by simp)) (ea_cons (ed_var rfl) ea_nil))) ⟨p, [1], m, a1, a2, rfl, hp, hp2, by decide, by omega, h1, rfl⟩) ed_int (rd_ixT (d := rowD a2) rfl)) ?_)
  refine go_seq (go_asg (d := rowD b2) (ed_op (ed_call (ea_cons (ed_var rfl) (ea_cons (ed_tup (ea_cons ed_int (ea_cons ed_int ea_nil)) (by simp)) (ea_cons (ed_var rfl) ea_nil))) ⟨p, [0, 1], m, b1, b2, rfl, hp, hp2, by decide, by omega, h2, rfl⟩) ed_int (rd_ixT (d := rowD b2) rfl)) ?_)
  refine go_seq (go_asg (d := .int (n : Int)) (ed_var rfl) ?_)
  refine go_seq (go_while (Inv := fun u Γ => ∃ (fr sq : Row) (left : Nat), Γ = [.d (.int p), .d (.int (n : Int)), .d (rowD m), .d (rowD fr), .d (rowD sq), .d (.int (left : Int))] ∧ powF p m u left fr sq = some g) 30 ⟨a2, b2, n, rfl, hm⟩ ?_)
  rintro u Γ ⟨fr, sq, left, rfl, hf⟩
  refine ⟨decide ((0 : Int) < (left : Int)), et_test (ed_ib (ed_var rfl) ed_int), fun q => ?_, fun q => ?_⟩
  · cases left with
    | zero => exact absurd (of_decide_eq_true q) (by decide)
    | succ left =>
      cases u with
      | zero => cases hf
      | succ u =>
        unfold powF at hf
        split at hf
        case isFalse => cases hf
        case isTrue hl =>
        obtain ⟨f', h3, hf⟩ := Option.bind_eq_some_iff.mp hf
        obtain ⟨z, h4, hf⟩ := Option.bind_eq_some_iff.mp hf
        split at hf
        case isFalse => cases hf
        case isTrue hl2 =>
        obtain ⟨⟨q1, q2⟩, h5, hf⟩ := Option.bind_eq_some_iff.mp hf
        have rest : Go K c [.d (.int p), .d (.int (n : Int)), .d (rowD m), .d (rowD f'), .d (rowD sq), .d (.int ((left + 1 : Nat) : Int))] (tSeq (tAsg (tOp (rIxT K) (tCall (PureF K R_divided) [] C8.E0 (tCons (tVar 0) (tCons (tCall (PureF K R_timesed) [] C8.E0 (tCons (tVar 0) (tCons (tVar 4) (tCons (tVar 4) tNil)))) (tCons (tVar 2) tNil)))) (tC (.int 1))) (gName 4))
            (tAsg (tOp (fun x y H Q => ∃ n : Nat, x = .int (n : Int) ∧ y = .int 1 ∧ Q (.int ((n / 2 : Nat) : Int)) H) (tVar 5) (tC (.int 1))) (gName 5)) { D with nx := NxW K c (fun u Γ => ∃ (fr sq : Row) (left : Nat), Γ = [.d (.int p), .d (.int (n : Int)), .d (rowD m), .d (rowD fr), .d (rowD sq), .d (.int (left : Int))] ∧ powF p m u left fr sq = some g) (u + 1), ct := NxW K c (fun u Γ => ∃ (fr sq : Row) (left : Nat), Γ = [.d (.int p), .d (.int (n : Int)), .d (rowD m), .d (rowD fr), .d (rowD sq), .d (.int (left : Int))] ∧ powF p m u left fr sq = some g) (u + 1), bk := tRet (tVar 3) D }) := by
          refine go_seq (go_asg (d := rowD q2) (ed_op (ed_call (ea_cons (ed_var rfl) (ea_cons (ed_call (ea_cons (ed_var rfl) (ea_cons (ed_var rfl) (ea_cons (ed_var rfl) ea_nil))) ⟨p, sq, sq, z, rfl, hp, by omega, by omega, h4, rfl⟩) (ea_cons (ed_var rfl) ea_nil))) ⟨p, z, m, q1, q2, rfl, hp, hp2, by omega, by omega, h5, rfl⟩) ed_int (rd_ixT (d := rowD q2) rfl)) ?_)
          refine go_asg (d := .int (((left + 1) / 2 : Nat) : Int)) (ed_op (ed_var rfl) ed_int rd_half) (go_nxW (Nat.lt_succ_self u) ⟨f', q2, (left + 1) / 2, rfl, hf⟩)
        refine go_seq (go_if (b := decide ((((left + 1) % 2 : Nat) : Int) = 1)) (et_test (ed_op (ed_op (ed_var rfl) ed_int rd_odd) ed_int rd_eqI)) (fun q' => ?_) (fun q' => ?_))
        · have o : (left + 1) % 2 = 1 := by
            have := of_decide_eq_true q'
            omega
          rw [if_pos o] at h3
          obtain ⟨z2, h6, h3⟩ := Option.bind_eq_some_iff.mp h3
          split at h3
          case isFalse => cases h3
          case isTrue hl3 =>
          rw [Option.map_eq_some_iff] at h3
          obtain ⟨⟨w1, w2⟩, h7, h8⟩ := h3
          cases h8
          refine go_asg (d := rowD w2) (ed_op (ed_call (ea_cons (ed_var rfl) (ea_cons (ed_call (ea_cons (ed_var rfl) (ea_cons (ed_var rfl) (ea_cons (ed_var rfl) ea_nil))) ⟨p, fr, sq, z2, rfl, hp, by omega, by omega, h6, rfl⟩) (ea_cons (ed_var rfl) ea_nil))) ⟨p, z2, m, w1, w2, rfl, hp, hp2, by omega, by omega, h7, rfl⟩) ed_int (rd_ixT (d := rowD w2) rfl)) ?_
          exact rest
        · have o : ¬ (left + 1) % 2 = 1 := by
            have := of_decide_eq_false q'
            omega
          rw [if_neg o] at h3
          cases h3
          exact go_next rest
  · have e : left = 0 := by
      have := of_decide_eq_false q
      omega
    subst e
    have hf' : fr = g := by
      cases u <;>
      · unfold powF at hf
        exact Option.some.inj hf
    rw [← hf'] at k
    exact go_ret (ed_var rfl) k
def R_of_rule : List PyData → PyData → Prop := fun ds r => ∃ (rule : Rule) (l : Int) (g : Row), ds = [ruleD rule] ∧ ofRuleM rule = some (l, g) ∧ r = .tuple [.int l, rowD g]
theorem sc_of_rule : FnScope ["rule", "least", "found", "offset", "amount"] ["rule"] (C8.fnScope s_of_rule) := C8.fnScope_by (by decide +kernel)
theorem ok_of_rule (T : Txt K mg) (F : C8.Def K mg "of_rule" s_of_rule f fd) (b : Binds K fd ["rule"] []) : C8.Cal P w K mg base 1 "of_rule" (PureF K R_of_rule) [] := by
  refine cal_pure F b sc_of_rule (fun ds r h => ?_) (fun cdv A outer s H E hr ds r h => ?_)
  · obtain ⟨_, _, _, rfl, _⟩ := h; rfl
  obtain ⟨rule, l, g, rfl, hm, rfl⟩ := h
  unfold ofRuleM at hm
  obtain ⟨a, ha, hm⟩ := Option.bind_eq_some_iff.mp hm
  obtain ⟨z, hz, hm⟩ := Option.bind_eq_some_iff.mp hm
  split at hm
  case isFalse => cases hm
  case isTrue hl =>
  obtain ⟨g', hf, hm⟩ := Option.bind_eq_some_iff.mp hm
  cases hm
  refine ⟨_, pss_cons (ps_set (i := 1) sc_of_rule.nd rfl (.inl rfl) (pe_ix ix_tup (pe_ix ix_tup (pv 0) pe_int (fun _ _ => rfl)) pe_int (fun _ _ => rfl)))
    (pss_cons (ps_set (i := 2) sc_of_rule.nd rfl (.inl rfl) (pe_op op_rep (pe_lst (pa_cons pe_int pa_nil)) (pe_op op_add (pe_op op_sub (pe_ix ix_tup (pe_ix ix_tup (pv 0) (pe_un un_neg pe_int) (fun _ _ => rfl)) pe_int (fun _ _ => rfl)) (pv 1)) pe_int)))
    (pss_cons (ps_for PassesOwn.never rfl (pi_tup (pv 0)) (pg_tup rfl (pgs_cons (pg_name (i := 3) sc_of_rule.nd rfl (.inl rfl)) (pgs_cons (pg_name (i := 4) sc_of_rule.nd rfl (.inl rfl)) pgs_nil)))
      (pss_one (ps_asg (pv 4) (pg_sub (pv 2) (pe_op op_sub (pv 3) (pv 1)) set_list))))
    (pss_one (ps_ret (pe_tup (pa_cons (pv 1) (pa_cons (pe_callTy call_tuple_of (by rfl) T.tuple_ (by decide +kernel) (pa_cons (pv 2) pa_nil)) pa_nil))))))), fun c D k => ?_⟩
  have hat0 : atI (rule.map fun x => PyData.tuple [.int x.1, .int x.2]) 0 = some (.tuple [.int a.1, .int a.2]) := atI_head (by rw [List.head?_map, ha]; rfl)
  have hatl : atI (rule.map fun x => PyData.tuple [.int x.1, .int x.2]) (-1) = some (.tuple [.int z.1, .int z.2]) := by
    have hne : rule ≠ [] := fun e => by rw [e] at hz; cases hz
    have e : rule = rule.dropLast ++ [z] := by
      rw [List.getLast?_eq_getLast hne] at hz
      have h' := Option.some.inj hz
      rw [← h', List.dropLast_concat_getLast]
    rw [e, List.map_append]
    exact atI_last _ _
  refine go_seq (go_asg (d := .int a.1) (ed_op (ed_op (ed_var rfl) ed_int (rd_ixT hat0)) ed_int (rd_ixT (d := .int a.1) rfl)) ?_)
  refine go_seq (go_asgN (EvN.is (es := rowsI (List.replicate (z.1 - a.1 + 1).toNat 0)) (en_rep (en_lst (ea_cons ed_int ea_nil) (by decide)) (ed_i0 (ed_i0 (ed_op (ed_op (ed_var rfl) (ed_neg ed_int) (rd_ixT hatl)) ed_int (rd_ixT (d := .int z.1) rfl)) (ed_var rfl)) ed_int) (by omega)) (by rw [← rep_rows])) ?_)
  refine go_seq (go_for (Inv := fun i Γ => ∃ fr x3 x4, Γ = [.d (ruleD rule), .d (.int a.1), .own (rowsI fr), x3, x4] ∧ fillM a.1 (rule.drop i) fr = some g) (it_tup (ed_var rfl)) ⟨_, _, _, rfl, hf⟩ ?_ ?_)
  · rintro b0 hb0 i d Γi e ⟨fr, x3, x4, rfl, hf⟩
    rw [List.getElem?_map] at e
    cases q : rule[i]? with
    | none => rw [q] at e; cases e
    | some x =>
      rw [q] at e
      cases e
      obtain ⟨h1, h2⟩ := List.getElem?_eq_some_iff.mp q
      rw [List.drop_eq_getElem_cons h1, h2] at hf
      unfold fillM at hf
      split at hf
      case isFalse => cases hf
      case isTrue hc =>
      refine ⟨_, tg_tup (tgs_cons tg_name (tgs_cons tg_name tgs_nil)) rfl, ?_⟩
      refine go_setix (xs := rowsI fr) (z := x.1 - a.1) (d := .int x.2) rfl (ed_var rfl) (ed_i0 (ed_var rfl) (ed_var rfl)) hc.1 (by rw [len_rows]; exact hc.2) ?_
      rw [set_rows]
      refine go_nx ?_
      exact ⟨_, _, _, rfl, hf⟩
  · rintro Γn ⟨fr, x3, x4, rfl, hf⟩
    rw [List.length_map, List.drop_length] at hf
    cases hf
    exact go_freeze (i := 2) rfl (go_ret (ed_tup (ea_cons (ed_var rfl) (ea_cons (ed_cb1 (ed_var rfl) rc_tupL) ea_nil)) (by simp)) k)
def R_core_of : List PyData → PyData → Prop := fun ds r => ∃ (p : Int) (rule : Rule) (g : Row), ds = [.int p, ruleD rule] ∧ 0 < p ∧ p ≤ 1000 ∧ coreM p rule = some g ∧ r = rowD g
theorem sc_core_of : FnScope ["prime", "rule"] ["prime", "rule"] (C8.fnScope s_core_of) := C8.fnScope_by (by decide +kernel)
theorem ofRuleM_len {rule : Rule} {l : Int} {g : Row} (h : ofRuleM rule = some (l, g)) : g.length ≤ 1000 := by
  unfold ofRuleM at h
  obtain ⟨a, _, h⟩ := Option.bind_eq_some_iff.mp h
  obtain ⟨z, _, h⟩ := Option.bind_eq_some_iff.mp h
  split at h
  case isFalse => cases h
  case isTrue hl =>
  obtain ⟨g', hf, h⟩ := Option.bind_eq_some_iff.mp h
  cases h
  rw [fillM_len hf, List.length_replicate]
  omega
theorem ok_core_of (F : C8.Def K mg "core_of" s_core_of f fd) (b : Binds K fd ["prime", "rule"] []) (c_of_rule : C8.Cal P w K mg base 1 "of_rule" (PureF K R_of_rule) []) (c_monic : C8.Cal P w K mg base 3 "monic" (PureF K R_monic) []) : C8.Cal P w K mg base 4 "core_of" (PureF K R_core_of) [] := by
  refine cal_pure F b sc_core_of (fun ds r h => ?_) (fun cdv A outer s H E hr ds r h => ?_)
  · obtain ⟨_, _, _, rfl, _⟩ := h; rfl
  obtain ⟨p, rule, g, rfl, hp, hp2, hm, rfl⟩ := h
  unfold coreM at hm
  obtain ⟨⟨l, row⟩, h1, hm⟩ := Option.bind_eq_some_iff.mp hm
  refine ⟨_, pss_one (ps_ret (C8.pe_c c_monic hr (by decide) (by rfl) (pa_cons (pv 0) (pa_cons (pe_ix ix_tup (C8.pe_c c_of_rule hr (by decide) (by rfl) (pa_cons (pv 1) pa_nil)) pe_int (fun _ _ => rfl)) pa_nil)))), fun c D k => ?_⟩
  exact go_ret (ed_call (ea_cons (ed_var rfl) (ea_cons (ed_op (ed_call (ea_cons (ed_var rfl) ea_nil) ⟨rule, l, row, rfl, h1, rfl⟩) ed_int (rd_ixT (d := rowD row) rfl)) ea_nil)) ⟨p, row, g, rfl, hp, hp2, ofRuleM_len h1, hm, rfl⟩) k
def R_generator_of : List PyData → PyData → Prop := fun ds r => ∃ (p : Int) (bs : List Rule) (g : Row), ds = [.tuple [.int p, .tuple (bs.map ruleD)]] ∧ 0 < p ∧ p ≤ 1000 ∧ bs.length ≤ 1000 ∧ genM p bs = some g ∧ r = rowD g
theorem sc_generator_of : FnScope ["panel", "button"] ["panel"] (C8.fnScope s_generator_of) := C8.fnScope_by (by decide +kernel)
theorem mapM_get {α β : Type} {f : α → Option β} : ∀ {xs : List α} {ys : List β}, xs.mapM f = some ys → ∀ {i : Nat} {x : α}, xs[i]? = some x → ∃ y, f x = some y ∧ ys[i]? = some y
  | [], ys, h, i, x, e => by simp at e
  | a :: xs, ys, h, i, x, e => by
    rw [List.mapM_cons] at h
    obtain ⟨y, h1, h⟩ := Option.bind_eq_some_iff.mp h
    obtain ⟨ys', h2, h⟩ := Option.bind_eq_some_iff.mp h
    cases h
    cases i with
    | zero =>
      have e' := Option.some.inj e
      subst e'
      exact ⟨y, h1, rfl⟩
    | succ i => exact mapM_get h2 (by simpa using e)
theorem mapM_fm {α β : Type} {f : α → Option β} : ∀ {xs : List α} {ys : List β}, xs.mapM f = some ys → xs.filterMap f = ys
  | [], ys, h => by
    cases h
    rfl
  | a :: xs, ys, h => by
    rw [List.mapM_cons] at h
    obtain ⟨y, h1, h⟩ := Option.bind_eq_some_iff.mp h
    obtain ⟨ys', h2, h⟩ := Option.bind_eq_some_iff.mp h
    cases h
    rw [List.filterMap_cons, h1, mapM_fm h2]
/-- a comprehension whose elements are told one by one -/
theorem en_each {K : PySem.W.Frag} {Γ : List Sl} {te : TE} {tt : TT} {g : TG} {vs : List Nat} {wi : TI} {ds es : List PyData} (hi : ItD K wi Γ ds) (hl : ds.length ≤ 100000) (hl2 : es.length = ds.length)
    (hs : ∀ (i : Nat) d, ds[i]? = some d → ∃ e, es[i]? = some e ∧ ∃ Γ2, TgW K g vs d (wipeG Γ vs) Γ2 ∧ EtD K tt Γ2 true ∧ EvD K te Γ2 e) : EvN K (tLc wi g tt te vs) Γ es := fun hh H0 σ Hs x Q q => hi hh H0 σ Hs x _ fun J Hf H1 a w D hD => by
  refine ⟨fun i m H => m = ds.length - i ∧ i ≤ ds.length ∧ ∃ G0 us, Adv Hf H1 G0 H ∧ G0 D = none ∧ H D = some (.lst us) ∧ DpAll K G0 us (es.take i), ⟨_, rfl, Nat.zero_le _, Hf, [], (Adv.refl a.i).write hD (a.i.free hD), a.i.free hD, upd_same, ?_⟩, ?_⟩
  · rw [List.take_zero]
    exact .nil
  rintro i m H ⟨rfl, hle, G0, us, aH, n0, eD, dd⟩
  by_cases hlt : i < ds.length
  · refine .inr ⟨w.go i H hlt (aH.b.trans aH.i), fun H' => i + 1 ≤ ds.length ∧ ∃ G0 us, Adv Hf H1 G0 H' ∧ G0 D = none ∧ H' D = some (.lst us) ∧ DpAll K G0 us (es.take (i + 1)), fun H' p => ⟨_, by omega, rfl, p.1, p.2⟩, fun v H' y => ?_⟩
    obtain ⟨d, e, k⟩ := w.yld i H v H' hlt (aH.b.trans aH.i) y
    obtain ⟨G1, a1, e1⟩ := k G0 aH.b aH.i
    have x1 : Sat K hh G1 (wipe σ vs) H' (wipeG Γ vs) := (((x.adv a).adv (aH.trans a1))).wipe vs
    obtain ⟨e', ee, Γ2, tg, ht, he⟩ := hs i d e
    refine tg hh G1 _ H' v x1 e1 _ fun σ' w1 x2 => ⟨w1.trans wipe_wipe, ?_⟩
    refine ht hh G1 σ' H' x2 _ fun G2 H2 a2 => ?_
    show te σ' H2 _
    refine he hh G2 σ' H2 (x2.adv a2) _ fun u G3 H3 a3 e3 => ?_
    have a13 := a1.trans (a2.trans a3)
    have keep3 := a13.keep n0 eD
    have dd3 := dps_mono a13.b _ _ dd
    have hlen : us.length ≤ i := by
      rw [dps_len dd, List.length_take]
      exact Nat.min_le_left _ _
    refine ⟨us, keep3.2, Nat.lt_of_lt_of_le (show us.length < 100000 by omega) (show 100000 ≤ sizeLine by decide), hlt, G3, _, (aH.trans a13).write hD keep3.1, keep3.1, upd_same, ?_⟩
    rw [List.take_add_one, ee]
    exact dps_snoc dd3 e3
  · have e : i = ds.length := by omega
    subst e
    refine .inl ⟨w.stop H (aH.b.trans aH.i), ?_⟩
    rw [← hl2, List.take_length] at dd
    have := q D us G0 (hid H D) ((a.trans aH).hid (a.s.free hD) n0) hid_at dd
    rw [hid_back eD] at this
    exact this
theorem mapM_len {α β : Type} {f : α → Option β} : ∀ {xs : List α} {ys : List β}, xs.mapM f = some ys → ys.length = xs.length
  | [], ys, h => by
    cases h
    rfl
  | a :: xs, ys, h => by
    rw [List.mapM_cons] at h
    obtain ⟨y, h1, h⟩ := Option.bind_eq_some_iff.mp h
    obtain ⟨ys', h2, h⟩ := Option.bind_eq_some_iff.mp h
    cases h
    rw [List.length_cons, List.length_cons, mapM_len h2]
theorem ok_generator_of (F : C8.Def K mg "generator_of" s_generator_of f fd) (b : Binds K fd ["panel"] []) (c_gcd_of : C8.Cal P w K mg base 5 "gcd_of" (PureF K R_gcd_of) []) (c_core_of : C8.Cal P w K mg base 4 "core_of" (PureF K R_core_of) []) : C8.Cal P w K mg base 6 "generator_of" (PureF K R_generator_of) [] := by
  refine cal_pure F b sc_generator_of (fun ds r h => ?_) (fun cdv A outer s H E hr ds r h => ?_)
  · obtain ⟨_, _, _, rfl, _⟩ := h; rfl
  obtain ⟨p, bs, g, rfl, hp, hp2, hl, hm, rfl⟩ := h
  unfold genM at hm
  obtain ⟨cs, h1, hm⟩ := Option.bind_eq_some_iff.mp hm
  refine ⟨_, pss_one (ps_ret (C8.pe_c c_gcd_of hr (by decide) (by rfl) (pa_cons (pe_ix ix_tup (pv 0) pe_int (fun _ _ => rfl)) (pa_cons (pe_lc (own := [("button", 1)]) (g := gName 1) (by rfl) sc_generator_of.nd (pi_tup (pe_ix ix_tup (pv 0) pe_int (fun _ _ => rfl))) (blkOk_by (N := ["panel", "button"]) (sc := C8.fnScope s_generator_of) (by decide +kernel))
    (fun _ _ _ _ _ => pg_name (i := 1) sc_generator_of.nd rfl (.inl rfl)) (fun _ _ _ _ _ => pts_nil) (fun _ _ _ _ _ => C8.pe_c c_core_of hr (by decide) (by rfl) (pa_cons (pe_ix (r := rIxT K) ix_tup (pv 0) pe_int (fun _ _ => rfl)) (pa_cons (pv 1) pa_nil)))) pa_nil)))), fun c D k => ?_⟩
  refine go_ret (ed_call (ea_cons (ed_op (ed_var rfl) ed_int (rd_ixT (d := .int p) rfl)) (ea_cons (EvN.toD (en_each (es := cs.map rowD) (it_tup (ed_op (ed_var rfl) ed_int (rd_ixT (d := .tuple (bs.map ruleD)) rfl))) (by rw [List.length_map]; omega) (by rw [List.length_map, List.length_map, mapM_len h1]) fun i d e => ?_)) ea_nil)) ⟨p, cs, g, rfl, hp, hp2, hm, rfl⟩) k
  rw [List.getElem?_map] at e
  cases q : bs[i]? with
  | none => rw [q] at e; cases e
  | some x =>
    rw [q] at e
    cases e
    obtain ⟨y, h2, h3⟩ := mapM_get h1 q
    exact ⟨rowD y, by rw [List.getElem?_map, h3]; rfl, _, tw_name (by decide), ts_nil, ed_call (ea_cons (ed_op (ed_var rfl) ed_int (rd_ixT (d := .int p) rfl)) (ea_cons (ed_var rfl) ea_nil)) ⟨p, x, y, rfl, hp, hp2, h2, rfl⟩⟩
end
end Evr
set_option Elab.async false
set_option linter.all false
set_option maxRecDepth 100000
set_option maxHeartbeats 4000000
namespace Evr
open PySem PySem.Spec PyProof.Rows L2
abbrev panelD (p : Int) (bs : List Rule) : PyData := .tuple [.int p, .tuple (bs.map ruleD)]
theorem panB_iff {p : Int} {bs : List Rule} (h : panB p bs = true) : ([2, 3, 5].any fun y => decide (y = p)) = true ∧ 0 < p ∧ p ≤ 1000 ∧ 0 < bs.length ∧ bs.length ≤ 1000 ∧ ∀ r ∈ bs, ruleB p r = true := by
  unfold panB at h
  simp only [Bool.and_eq_true] at h
  obtain ⟨⟨⟨h1, h2⟩, h3⟩, h4⟩ := h
  have hp : p = 2 ∨ p = 3 ∨ p = 5 := by
    simp only [List.any_cons, List.any_nil, Bool.or_false, Bool.or_eq_true, decide_eq_true_eq] at h1
    omega
  exact ⟨h1, by omega, by omega, of_decide_eq_true h2, of_decide_eq_true h3, List.all_eq_true.mp h4⟩
theorem ruleB_iff {p : Int} {r : Rule} (h : ruleB p r = true) : (∀ x ∈ r, 1 ≤ x.2 ∧ x.2 ≤ p - 1) ∧ ascB (r.map (·.1)) = true ∧ 0 < r.length ∧ r.length ≤ 1000 := by
  unfold ruleB at h
  simp only [Bool.and_eq_true] at h
  obtain ⟨⟨⟨h1, h2⟩, h3⟩, h4⟩ := h
  refine ⟨fun x hx => ?_, h2, of_decide_eq_true h3, of_decide_eq_true h4⟩
  have := List.all_eq_true.mp h1 x hx
  rw [Bool.and_eq_true] at this
  exact ⟨of_decide_eq_true this.1, of_decide_eq_true this.2⟩
theorem asc_get : ∀ {l : List Int} {i : Nat} {a b : Int}, ascB l = true → l[i]? = some a → l[i + 1]? = some b → a < b
  | [], i, a, b, _, h, _ => by simp at h
  | [_], i, a, b, _, _, h => by simp at h
  | x :: y :: r, 0, a, b, h, h1, h2 => by
    have e1 := Option.some.inj h1
    have e2 := Option.some.inj h2
    subst e1; subst e2
    unfold ascB at h
    rw [Bool.and_eq_true] at h
    exact of_decide_eq_true h.1
  | x :: y :: r, i + 1, a, b, h, h1, h2 => by
    unfold ascB at h
    rw [Bool.and_eq_true] at h
    exact asc_get (l := y :: r) (i := i) h.2 (by simpa using h1) (by simpa using h2)
theorem rep_all (n : Nat) : (List.replicate n true).all id = true := by
  rw [List.all_replicate]
  simp
theorem rep_bools (n : Nat) : List.replicate n (PyData.bool true) = (List.replicate n true).map PyData.bool := List.map_replicate.symm
theorem rep_get {α : Type} {n i : Nat} {x : α} (h : i < n) : (List.replicate n x)[i]? = some x := by
  rw [List.getElem?_replicate, if_pos h]
section
variable {P : Program} {w : World} {K : PySem.W.Frag} {mg : Str → Option Value} {base : Heap} {f : Addr} {fd : FuncData}
def NxOk (K : PySem.W.Frag) (c : Cxt) (nx : L2.St → Hp → Prop) : Prop := ∀ σ H0 H, At c H0 H → nx σ H
theorem cal_none {x : Str} {st : Stmt} {f : Addr} {fd : FuncData} {N ps : List Str} {k : Nat} {R : List PyData → PyData → Prop} (F : C8.Def K mg x st f fd) (b : Binds K fd ps []) (S : FnScope N ps (C8.fnScope st)) (len : ∀ ds r, R ds r → ds.length = ps.length ∧ r = .none)
    (hbody : ∀ (cdv : Value) (A : Around) (outer : List Env) (s : Shared) (H : Hp) (E : XK), Room k (A.deeper (envOfC x (C8.fnScope st) s.heap.objs.size f cdv)) → ∀ ds r, R ds r →
      ∃ t, PSs (cxOf C8.CX0 P w K mg base N x (C8.fnScope st) f cdv A outer s H E).nox (C8.fnBody st) t ∧ ∀ c D, NxOk K c D.nx → Go K c (startG N.length ds) (t D)) : C8.Cal P w K mg base (k + 1) x (PureF K R) [] := by
  refine C8.cal0 F b .nil S (fun vs H Q E h => ?_) (fun cdv A outer s H vs Q E hr h => ?_)
  · obtain ⟨H0, ds, r, i, hd, hR, _⟩ := h
    rw [dps_len hd]
    exact (len ds r hR).1
  · obtain ⟨H0, ds, r, i, hd, hR, q⟩ := h
    obtain ⟨t, h1, h2⟩ := hbody cdv A outer s H E hr ds r hR
    have er := (len ds r hR).2
    subst er
    exact ⟨t, h1, h2 ⟨H0, H0, H⟩ _ (fun σ H0' H' a => q .non H0' H' a.from .non) H0 _ H (At.start i) (sat_start i hd)⟩
def R_is_pair : List PyData → PyData → Prop := fun ds r => ∃ p o a, ds = [.int p, .tuple [.int o, .int a]] ∧ 1 ≤ a ∧ a ≤ p - 1 ∧ r = .bool true
theorem sc_is_pair : FnScope ["prime", "value"] ["prime", "value"] (C8.fnScope s_is_pair) := C8.fnScope_by (by decide +kernel)
theorem ok_is_pair (T : Txt K mg) (F : C8.Def K mg "is_pair" s_is_pair f fd) (b : Binds K fd ["prime", "value"] []) (c_is_number : C8.Cal P w K mg base 1 "is_number" (PureF K R_is_number) []) (c_is_whole : C8.Cal P w K mg base 2 "is_whole" (PureF K R_is_whole) []) :
    C8.Cal P w K mg base 3 "is_pair" (PureF K R_is_pair) [] := by
  refine cal_pure F b sc_is_pair (fun ds r h => ?_) (fun cdv A outer s H E hr ds r h => ?_)
  · obtain ⟨_, _, _, rfl, _⟩ := h; rfl
  obtain ⟨p, o, a, rfl, h1, h2, rfl⟩ := h
  refine ⟨_, pss_one (ps_ret (pe_and (pe_callB call_isi (by rfl) T.isinstance_ (by decide +kernel) (pa_cons (pv 1) (pa_cons (pe_bltn (v := .ty "tuple") (by rfl) T.tuple_ (by decide +kernel) rfl) pa_nil)))
    (pe_and (pe_cmpR op_eq (pe_callB call_len_seq (by rfl) T.len_ PySem.boot_len (pa_cons (pv 1) pa_nil)) pe_int (nomark _))
    (pe_and (C8.pe_c c_is_number hr (by decide) (by rfl) (pa_cons (pe_ix ix_tup (pv 1) pe_int (fun _ _ => rfl)) pa_nil))
    (pe_one (C8.pe_c c_is_whole hr (by decide) (by rfl) (pa_cons (pe_ix ix_tup (pv 1) pe_int (fun _ _ => rfl)) (pa_cons pe_int (pa_cons (pe_op op_sub (pv 0) pe_int) pa_nil))))))))), fun c D k => ?_⟩
  refine go_ret (ed_and (b1 := true) (b2 := true) (ed_isiTup (ed_var rfl) (by decide +kernel)) fun _ => ed_and (b1 := true) (b2 := true) (ed_op (ed_cb1 (ed_var rfl) rc_lenT) ed_int rd_eqI) fun _ => ed_and (b1 := true) (b2 := true) (ed_call (ea_cons (ed_op (ed_var rfl) ed_int (rd_ixT (d := .int o) rfl)) ea_nil) ⟨o, rfl, rfl⟩) fun _ =>
    ed_call (ea_cons (ed_op (ed_var rfl) ed_int (rd_ixT (d := .int a) rfl)) (ea_cons ed_int (ea_cons (ed_i0 (ed_var rfl) ed_int) ea_nil))) ⟨a, 1, p - 1, rfl, ?_⟩) k
  rw [decide_eq_true h1, decide_eq_true h2]
  rfl
def R_fits_rule : List PyData → PyData → Prop := fun ds r => ∃ p rule, ds = [.int p, ruleD rule] ∧ ruleB p rule = true ∧ r = .bool true
abbrev N_fits_rule : List Str := ["prime", "value", "part", "here", "there"]
theorem sc_fits_rule : FnScope N_fits_rule ["prime", "value"] (C8.fnScope s_fits_rule) := C8.fnScope_by (by decide +kernel)
theorem rule_get {rule : Rule} {i : Nat} {d : PyData} (h : (rule.map fun x => PyData.tuple [.int x.1, .int x.2])[i]? = some d) : ∃ x, rule[i]? = some x ∧ d = .tuple [.int x.1, .int x.2] ∧ i < rule.length ∧ x ∈ rule := by
  rw [List.getElem?_map] at h
  cases q : rule[i]? with
  | none => rw [q] at h; cases h
  | some x =>
    rw [q] at h
    cases h
    exact ⟨x, rfl, rfl, (List.getElem?_eq_some_iff.mp q).1, List.mem_of_getElem? q⟩
theorem ok_fits_rule (T : Txt K mg) (F : C8.Def K mg "fits_rule" s_fits_rule f fd) (b : Binds K fd ["prime", "value"] []) (c_is_pair : C8.Cal P w K mg base 3 "is_pair" (PureF K R_is_pair) []) : C8.Cal P w K mg base 4 "fits_rule" (PureF K R_fits_rule) [] := by
  refine cal_pure F b sc_fits_rule (fun ds r h => ?_) (fun cdv A outer s H E hr ds r h => ?_)
  · obtain ⟨_, _, rfl, _⟩ := h; rfl
  obtain ⟨p, rule, rfl, hb, rfl⟩ := h
  obtain ⟨hall, hasc, hl0, hl⟩ := ruleB_iff hb
  refine ⟨_, pss_cons (ps_if (PW.pt (pw_or (pt_not (pt_val (pe_callB call_isi (by rfl) T.isinstance_ (by decide +kernel) (pa_cons (pv 1) (pa_cons (pe_bltn (v := .ty "tuple") (by rfl) T.tuple_ (by decide +kernel) rfl) pa_nil)))))
      (pw_or1 (pt_not (pt_val (pe_callB (cr_all (by rfl)) (by rfl) T.all_ (by decide +kernel) (pa_cons (pe_lc (own := [("part", 2)]) (g := gName 2) (by rfl) sc_fits_rule.nd (pi_tup (pv 1)) (blkOk_by (N := N_fits_rule) (sc := C8.fnScope s_fits_rule) (by decide +kernel))
        (fun _ _ _ _ _ => pg_name (i := 2) sc_fits_rule.nd rfl (.inl rfl)) (fun _ _ _ _ _ => pts_nil) (fun _ _ _ _ _ => C8.pe_c c_is_pair hr (by decide) (by rfl) (pa_cons (pv 0) (pa_cons (pv 2) pa_nil)))) pa_nil))))))) (pss_one (ps_ret pe_bl)) pss_nil)
    (pss_one (ps_ret (pe_callB (cr_all (by rfl)) (by rfl) T.all_ (by decide +kernel) (pa_cons (pe_lc (own := [("here", 3), ("there", 4)]) (g := gTup K 2 (gCons (gName 3) (gCons (gName 4) gNil))) (by rfl) sc_fits_rule.nd (RZ.pi_zipA (by rfl) T.zip_ (pa_cons (pv 1) (pa_cons (pe_slice sl_tupA (pv 1) (po_some pe_int) po_none) pa_nil))) (blkOk_by (N := N_fits_rule) (sc := C8.fnScope s_fits_rule) (by decide +kernel))
        (fun _ _ _ _ _ => pg_tup rfl (pgs_cons (pg_name (i := 3) sc_fits_rule.nd rfl (.inl rfl)) (pgs_cons (pg_name (i := 4) sc_fits_rule.nd rfl (.inl rfl)) pgs_nil))) (fun _ _ _ _ _ => pts_nil) (fun _ _ _ _ _ => pe_cmpR op_lt (pe_ix (r := rIxT K) ix_tup (pv 3) pe_int (fun _ _ => rfl)) (pe_ix (r := rIxT K) ix_tup (pv 4) pe_int (fun _ _ => rfl)) (nomark _))) pa_nil)))), fun c D k => ?_⟩
  refine go_seq (go_if (b := false) (et_or (b1 := false) (b2 := false) (et_not (b := true) (et_B (ed_isiTup (ed_var rfl) (by decide +kernel)))) fun _ => et_not (b := true) (et_B ?_)) (fun q => by cases q) (fun _ => go_next ?_))
  · refine (ed_cb1 (EvN.toD (en_each (es := (List.replicate rule.length true).map PyData.bool) (it_tup (ed_var rfl)) (by rw [List.length_map]; omega) (by rw [List.length_map, List.length_map, List.length_replicate]) fun i d e => ?_)) rc_all).is (by rw [rep_all])
    obtain ⟨x, h1, rfl, hi, hx⟩ := rule_get e
    exact ⟨.bool true, by rw [List.getElem?_map, rep_get hi]; rfl, _, tw_name (by decide), ts_nil, ed_call (ea_cons (ed_var rfl) (ea_cons (ed_var rfl) ea_nil)) ⟨p, x.1, x.2, rfl, (hall x hx).1, (hall x hx).2, rfl⟩⟩
  · have hzl : (pairsD (rule.map fun x => PyData.tuple [.int x.1, .int x.2]) ((rule.map fun x => PyData.tuple [.int x.1, .int x.2]).drop 1)).length = rule.length - 1 := by
      rw [pairsD_len, List.length_drop, List.length_map]
      omega
    refine go_ret ((ed_cb1 (EvN.toD (en_each (es := (List.replicate (rule.length - 1) true).map PyData.bool) (it_zipT (es := (rule.map fun x => PyData.tuple [.int x.1, .int x.2]).drop 1) (ea_cons (ed_var rfl) (ea_cons ((ed_slT (ed_var rfl) (eo_some ed_int) eo_none).is (by rw [cut_drop1])) ea_nil))) (by rw [hzl]; omega) (by rw [hzl, List.length_map, List.length_replicate]) fun i d e => ?_)) rc_all).is (by rw [rep_all])) k
    have hi : i < rule.length - 1 := by
      have := (List.getElem?_eq_some_iff.mp e).1
      rw [hzl] at this
      exact this
    have i1 : i < rule.length := by omega
    have i2 : i + 1 < rule.length := by omega
    have g1 : rule[i]? = some rule[i] := List.getElem?_eq_getElem i1
    have g2 : rule[i + 1]? = some rule[i + 1] := List.getElem?_eq_getElem i2
    have z := pairsD_get (rule.map fun x => PyData.tuple [.int x.1, .int x.2]) ((rule.map fun x => PyData.tuple [.int x.1, .int x.2]).drop 1) i _ _ (by rw [List.getElem?_map, g1]; rfl) (by rw [List.getElem?_drop, Nat.add_comm, List.getElem?_map, g2]; rfl)
    rw [z] at e
    cases e
    have hlt : rule[i].1 < rule[i + 1].1 := asc_get hasc (by rw [List.getElem?_map, g1]; rfl) (by rw [List.getElem?_map, g2]; rfl)
    exact ⟨.bool true, by rw [List.getElem?_map, rep_get hi]; rfl, _, tw_tup (tws_cons (tw_name (by decide)) (tws_cons (tw_name (by decide)) tws_nil)) rfl, ts_nil,
      (ed_ib (ed_op (ed_var rfl) ed_int (rd_ixT (d := .int rule[i].1) rfl)) (ed_op (ed_var rfl) ed_int (rd_ixT (d := .int rule[i + 1].1) rfl))).is (by rw [decide_eq_true hlt])⟩
end
end Evr
set_option Elab.async false
set_option linter.all false
set_option maxRecDepth 100000
set_option maxHeartbeats 4000000
namespace Evr
open PySem PySem.Spec PyProof.Rows L2
def picF (d : PyData) : Option PyData := match d with
  | .tuple [.int i, .int x] => if x ≠ 0 then some (.tuple [.int i, .int x]) else none
  | _ => none
theorem pic_eq (row : Row) : (enumD row).filterMap picF = (picM row).map fun x => PyData.tuple [.int x.1, .int x.2] := by
  have h1 : ∀ n : Nat, n ≤ row.length → ((enumD row).take n).filterMap picF = ((((List.range row.length).zip row).take n).filterMap fun x => if x.2 ≠ 0 then some ((x.1 : Int), x.2) else none).map fun x => PyData.tuple [.int x.1, .int x.2] := by
    intro n
    induction n with
    | zero => intro _; rfl
    | succ n ih =>
      intro h
      have hn : n < row.length := h
      have g : ((List.range row.length).zip row)[n]? = some (n, row[n]) := by
        rw [List.getElem?_zip_eq_some]
        exact ⟨by simp [hn], by simp [hn]⟩
      have g2 : (enumD row)[n]? = some (.tuple [.int (n : Nat), .int (row.getD n 0)]) := by
        have hl : n < (enumD row).length := by rw [enumD_len]; exact hn
        have e := List.getElem?_eq_getElem hl
        rw [e]
        rw [(enumD_get e).2]
      rw [take_succ_map g, take_succ_map g2, ih (by omega), List.map_append]
      congr 1
      have eg : row.getD n 0 = row[n] := by
        rw [List.getD_eq_getElem?_getD, List.getElem?_eq_getElem hn]
        rfl
      rw [eg]
      show (if row[n] ≠ 0 then some _ else none).toList = List.map _ (if row[n] ≠ 0 then some _ else none).toList
      split <;> rfl
  have h2 := h1 row.length (Nat.le_refl _)
  rw [List.take_of_length_le (by rw [enumD_len]; exact Nat.le_refl _), List.take_of_length_le (by rw [List.length_zip, List.length_range]; omega)] at h2
  exact h2
section
variable {P : Program} {w : World} {K : PySem.W.Frag} {mg : Str → Option Value} {base : Heap} {f : Addr} {fd : FuncData}
def R_fits_panel : List PyData → PyData → Prop := fun ds r => ∃ p bs, ds = [panelD p bs] ∧ panB p bs = true ∧ r = .bool true
theorem sc_fits_panel : FnScope ["value", "button"] ["value"] (C8.fnScope s_fits_panel) := C8.fnScope_by (by decide +kernel)
theorem btn_get {bs : List Rule} {i : Nat} {d : PyData} (h : (bs.map ruleD)[i]? = some d) : ∃ x, bs[i]? = some x ∧ d = ruleD x ∧ i < bs.length ∧ x ∈ bs := by
  rw [List.getElem?_map] at h
  cases q : bs[i]? with
  | none => rw [q] at h; cases h
  | some x =>
    rw [q] at h
    cases h
    exact ⟨x, rfl, rfl, (List.getElem?_eq_some_iff.mp q).1, List.mem_of_getElem? q⟩
theorem ok_fits_panel (T : Txt K mg) (F : C8.Def K mg "fits_panel" s_fits_panel f fd) (b : Binds K fd ["value"] []) (c_is_prime : C8.Cal P w K mg base 2 "is_prime" (PureF K R_is_prime) []) (c_fits_rule : C8.Cal P w K mg base 4 "fits_rule" (PureF K R_fits_rule) []) : C8.Cal P w K mg base 5 "fits_panel" (PureF K R_fits_panel) [] := by
  refine cal_pure F b sc_fits_panel (fun ds r h => ?_) (fun cdv A outer s H E hr ds r h => ?_)
  · obtain ⟨_, _, rfl, _⟩ := h; rfl
  obtain ⟨p, bs, rfl, hb, rfl⟩ := h
  obtain ⟨hpr, hp, hp2, hl0, hl, hall⟩ := panB_iff hb
  refine ⟨_, pss_cons (ps_if (PW.pt (pw_or (pt_not (pt_val (pe_callB call_isi (by rfl) T.isinstance_ (by decide +kernel) (pa_cons (pv 0) (pa_cons (pe_bltn (v := .ty "tuple") (by rfl) T.tuple_ (by decide +kernel) rfl) pa_nil))))) (pw_or (pt_cmpR op_ne (pe_callB call_len_seq (by rfl) T.len_ PySem.boot_len (pa_cons (pv 0) pa_nil)) pe_int (nomark _)) (pw_or1 (pt_not (pt_val (C8.pe_c c_is_prime hr (by decide) (by rfl) (pa_cons (pe_ix ix_tup (pv 0) pe_int (fun _ _ => rfl)) pa_nil)))))))) (pss_one (ps_ret pe_bl)) pss_nil)
    (pss_cons (ps_if (PW.pt (pw_or (pt_not (pt_val (pe_callB call_isi (by rfl) T.isinstance_ (by decide +kernel) (pa_cons (pe_ix ix_tup (pv 0) pe_int (fun _ _ => rfl)) (pa_cons (pe_bltn (v := .ty "tuple") (by rfl) T.tuple_ (by decide +kernel) rfl) pa_nil))))) (pw_or1 (pt_cmpR op_eq (pe_callB call_len_seq (by rfl) T.len_ PySem.boot_len (pa_cons (pe_ix ix_tup (pv 0) pe_int (fun _ _ => rfl)) pa_nil)) pe_int (nomark _))))) (pss_one (ps_ret pe_bl)) pss_nil)
    (pss_one (ps_ret (pe_callB (cr_all (by rfl)) (by rfl) T.all_ (by decide +kernel) (pa_cons (pe_lc (own := [("button", 1)]) (g := gName 1) (by rfl) sc_fits_panel.nd (pi_tup (pe_ix ix_tup (pv 0) pe_int (fun _ _ => rfl))) (blkOk_by (N := ["value", "button"]) (sc := C8.fnScope s_fits_panel) (by decide +kernel))
        (fun _ _ _ _ _ => pg_name (i := 1) sc_fits_panel.nd rfl (.inl rfl)) (fun _ _ _ _ _ => pts_nil) (fun _ _ _ _ _ => pe_and (C8.pe_c c_fits_rule hr (by decide) (by rfl) (pa_cons (pe_ix (r := rIxT K) ix_tup (pv 0) pe_int (fun _ _ => rfl)) (pa_cons (pv 1) pa_nil))) (pe_one (pe_cmpR op_gt (pe_callB (r := rLenQ K) call_len_seq (by rfl) T.len_ PySem.boot_len (pa_cons (pv 1) pa_nil)) pe_int (nomark _))))) pa_nil))))), fun c D k => ?_⟩
  have ix0 : ∀ {Γ : List Sl}, Γ[0]? = some (.d (panelD p bs)) → EvD K (tOp (rIxT K) (tVar 0) (tC (.int 0))) Γ (.int p) := fun e => ed_op (ed_var e) ed_int (rd_ixT (d := .int p) rfl)
  have ix1 : ∀ {Γ : List Sl}, Γ[0]? = some (.d (panelD p bs)) → EvD K (tOp (rIxT K) (tVar 0) (tC (.int 1))) Γ (.tuple (bs.map ruleD)) := fun e => ed_op (ed_var e) ed_int (rd_ixT (d := .tuple (bs.map ruleD)) rfl)
  refine go_seq (go_if (b := false) (et_or (b1 := false) (b2 := false) (et_not (b := true) (et_B (ed_isiTup (ed_var rfl) (by decide +kernel)))) fun _ => et_or (b1 := false) (b2 := false) (et_test (ed_op (ed_cb1 (ed_var rfl) rc_lenT) ed_int rd_neI)) fun _ => et_not (b := true) (et_B (ed_call (ea_cons (ix0 rfl) ea_nil) ⟨p, rfl, by rw [hpr]⟩))) (fun q => by cases q) (fun _ => go_next ?_))
  refine go_seq (go_if (b := false) (et_or (b1 := false) (b2 := false) (et_not (b := true) (et_B (ed_isiTup (ix1 rfl) (by decide +kernel)))) fun _ => ?_) (fun q => by cases q) (fun _ => go_next ?_))
  · refine (et_test (ed_op (ed_cb1 (ix1 rfl) rc_lenT) ed_int rd_eqI)).is (decide_eq_false ?_)
    rw [List.length_map]
    omega
  refine go_ret ((ed_cb1 (EvN.toD (en_each (es := (List.replicate bs.length true).map PyData.bool) (it_tup (ix1 rfl)) (by rw [List.length_map]; omega) (by rw [List.length_map, List.length_map, List.length_replicate]) fun i d e => ?_)) rc_all).is (by rw [rep_all])) k
  obtain ⟨x, h1, rfl, hi, hx⟩ := btn_get e
  have hz := (ruleB_iff (hall x hx)).2.2.1
  refine ⟨.bool true, by rw [List.getElem?_map, rep_get hi]; rfl, _, tw_name (by decide), ts_nil, ed_and (b1 := true) (b2 := true) (ed_call (ea_cons (ix0 rfl) (ea_cons (ed_var rfl) ea_nil)) ⟨p, x, rfl, hall x hx, rfl⟩) fun _ => (ed_ib (ed_cb1 (ed_var rfl) rc_lenT) ed_int).is ?_⟩
  rw [List.length_map, decide_eq_true (by omega)]
def R_need_panel : List PyData → PyData → Prop := fun ds r => ∃ p bs, ds = [panelD p bs] ∧ panB p bs = true ∧ r = .none
theorem sc_need_panel : FnScope ["panel"] ["panel"] (C8.fnScope s_need_panel) := C8.fnScope_by (by decide +kernel)
theorem ok_need_panel (F : C8.Def K mg "need_panel" s_need_panel f fd) (b : Binds K fd ["panel"] []) (c_fits_panel : C8.Cal P w K mg base 5 "fits_panel" (PureF K R_fits_panel) []) : C8.Cal P w K mg base 6 "need_panel" (PureF K R_need_panel) [] := by
  refine cal_none F b sc_need_panel (fun ds r h => ?_) (fun cdv A outer s H E hr ds r h => ?_)
  · obtain ⟨_, _, rfl, _, rfl⟩ := h; exact ⟨rfl, rfl⟩
  obtain ⟨p, bs, rfl, hb, rfl⟩ := h
  refine ⟨_, pss_one (ps_if (pt_not (pt_val (C8.pe_c c_fits_panel hr (by decide) (by rfl) (pa_cons (pv 0) pa_nil)))) (pss_one ps_never) pss_nil), fun c D k => ?_⟩
  exact go_if (b := false) (et_not (b := true) (et_B (ed_call (ea_cons (ed_var rfl) ea_nil) ⟨p, bs, rfl, hb, rfl⟩))) (fun q => by cases q) (fun _ => go_next fun H0 σ H a x => k σ H0 H a)
def R_need_both : List PyData → PyData → Prop := fun ds r => ∃ p b1 b2, ds = [panelD p b1, panelD p b2] ∧ panB p b1 = true ∧ panB p b2 = true ∧ r = .none
theorem sc_need_both : FnScope ["one", "other"] ["one", "other"] (C8.fnScope s_need_both) := C8.fnScope_by (by decide +kernel)
theorem ok_need_both (F : C8.Def K mg "need_both" s_need_both f fd) (b : Binds K fd ["one", "other"] []) (c_need_panel : C8.Cal P w K mg base 6 "need_panel" (PureF K R_need_panel) []) : C8.Cal P w K mg base 7 "need_both" (PureF K R_need_both) [] := by
  refine cal_none F b sc_need_both (fun ds r h => ?_) (fun cdv A outer s H E hr ds r h => ?_)
  · obtain ⟨_, _, _, rfl, _, _, rfl⟩ := h; exact ⟨rfl, rfl⟩
  obtain ⟨p, b1, b2, rfl, h1, h2, rfl⟩ := h
  refine ⟨_, pss_cons (ps_expr (C8.pe_c c_need_panel hr (by decide) (by rfl) (pa_cons (pv 0) pa_nil))) (pss_cons (ps_expr (C8.pe_c c_need_panel hr (by decide) (by rfl) (pa_cons (pv 1) pa_nil)))
    (pss_one (ps_if (pt_cmpR op_ne (pe_ix ix_tup (pv 0) pe_int (fun _ _ => rfl)) (pe_ix ix_tup (pv 1) pe_int (fun _ _ => rfl)) (nomark _)) (pss_one ps_never) pss_nil))), fun c D k => ?_⟩
  refine go_seq (go_drop (ed_call (ea_cons (ed_var rfl) ea_nil) ⟨p, b1, rfl, h1, rfl⟩) ?_)
  refine go_seq (go_drop (ed_call (ea_cons (ed_var rfl) ea_nil) ⟨p, b2, rfl, h2, rfl⟩) ?_)
  exact go_if (b := false) ((et_test (ed_op (ed_op (ed_var rfl) ed_int (rd_ixT (d := .int p) rfl)) (ed_op (ed_var rfl) ed_int (rd_ixT (d := .int p) rfl)) rd_neI)).is (by simp)) (fun q => by cases q) (fun _ => go_next fun H0 σ H a x => k σ H0 H a)
def R_picture_of : List PyData → PyData → Prop := fun ds r => ∃ row : Row, ds = [rowD row] ∧ row.length ≤ 1000 ∧ r = ruleD (picM row)
theorem sc_picture_of : FnScope ["row", "place", "colour"] ["row"] (C8.fnScope s_picture_of) := C8.fnScope_by (by decide +kernel)
theorem ok_picture_of (T : Txt K mg) (F : C8.Def K mg "picture_of" s_picture_of f fd) (b : Binds K fd ["row"] []) : C8.Cal P w K mg base 1 "picture_of" (PureF K R_picture_of) [] := by
  refine cal_pure F b sc_picture_of (fun ds r h => ?_) (fun cdv A outer s H E hr ds r h => ?_)
  · obtain ⟨_, rfl, _⟩ := h; rfl
  obtain ⟨row, rfl, hz, rfl⟩ := h
  refine ⟨_, pss_one (ps_ret (pe_callTy call_tuple_of (by rfl) T.tuple_ (by decide +kernel) (pa_cons (pe_lc (own := [("place", 1), ("colour", 2)]) (g := gTup K 2 (gCons (gName 1) (gCons (gName 2) gNil))) (by rfl) sc_picture_of.nd (pi_enT (by rfl) T.enumerate_ (pa_cons (pv 0) pa_nil)) (blkOk_by (N := ["row", "place", "colour"]) (sc := C8.fnScope s_picture_of) (by decide +kernel))
        (fun _ _ _ _ _ => pg_tup rfl (pgs_cons (pg_name (i := 1) sc_picture_of.nd rfl (.inl rfl)) (pgs_cons (pg_name (i := 2) sc_picture_of.nd rfl (.inl rfl)) pgs_nil))) (fun _ _ _ _ _ => pts_one (pt_cmpR op_ne (pv 2) pe_int (nomark _))) (fun _ _ _ _ _ => pe_tup (pa_cons (pv 1) (pa_cons (pv 2) pa_nil)))) pa_nil))), fun c D k => ?_⟩
  refine go_ret ((ed_cb1 (EvN.toD (en_lc picF (it_enT (ea_cons (ed_var rfl) ea_nil)) (by rw [enumD_len]; omega) fun i d e => ?_)) rc_tupL).is (by rw [pic_eq])) k
  obtain ⟨hi, rfl⟩ := enumD_get e
  refine ⟨_, tw_tup (tws_cons (tw_name (by decide)) (tws_cons (tw_name (by decide)) tws_nil)) rfl, !decide (row.getD i 0 = 0), et_test (ed_op (ed_var rfl) ed_int rd_neI), fun q => ⟨_, if_pos (fun z => ?_), ed_tup (ea_cons (ed_var rfl) (ea_cons (ed_var rfl) ea_nil)) (by simp)⟩, fun q => if_neg (fun z => ?_)⟩
  · rw [decide_eq_true z] at q
    cases q
  · rw [decide_eq_false z] at q
    cases q
def R_alike : List PyData → PyData → Prop := fun ds r => ∃ p b1 b2 g1 g2, ds = [panelD p b1, panelD p b2] ∧ panB p b1 = true ∧ panB p b2 = true ∧ genM p b1 = some g1 ∧ genM p b2 = some g2 ∧ r = .bool (decide (g1 = g2))
theorem sc_alike : FnScope ["one", "other"] ["one", "other"] (C8.fnScope s_alike) := C8.fnScope_by (by decide +kernel)
theorem ok_alike (F : C8.Def K mg "alike" s_alike f fd) (b : Binds K fd ["one", "other"] []) (c_need_panel : C8.Cal P w K mg base 6 "need_panel" (PureF K R_need_panel) []) (c_generator_of : C8.Cal P w K mg base 6 "generator_of" (PureF K R_generator_of) []) : C8.Cal P w K mg base 7 "alike" (PureF K R_alike) [] := by
  refine cal_pure F b sc_alike (fun ds r h => ?_) (fun cdv A outer s H E hr ds r h => ?_)
  · obtain ⟨_, _, _, _, _, rfl, _⟩ := h; rfl
  obtain ⟨p, b1, b2, g1, g2, rfl, h1, h2, h3, h4, rfl⟩ := h
  obtain ⟨_, hp, hp2, _, hl1, _⟩ := panB_iff h1
  obtain ⟨_, _, _, _, hl2, _⟩ := panB_iff h2
  refine ⟨_, pss_cons (ps_expr (C8.pe_c c_need_panel hr (by decide) (by rfl) (pa_cons (pv 0) pa_nil))) (pss_cons (ps_expr (C8.pe_c c_need_panel hr (by decide) (by rfl) (pa_cons (pv 1) pa_nil)))
    (pss_one (ps_ret (pe_and (pe_cmpR op_eq (pe_ix ix_tup (pv 0) pe_int (fun _ _ => rfl)) (pe_ix ix_tup (pv 1) pe_int (fun _ _ => rfl)) (nomark _)) (pe_one (pe_cmpR (op_eqD hr.units) (C8.pe_c c_generator_of hr (by decide) (by rfl) (pa_cons (pv 0) pa_nil)) (C8.pe_c c_generator_of hr (by decide) (by rfl) (pa_cons (pv 1) pa_nil)) (nomark _))))))), fun c D k => ?_⟩
  refine go_seq (go_drop (ed_call (ea_cons (ed_var rfl) ea_nil) ⟨p, b1, rfl, h1, rfl⟩) ?_)
  refine go_seq (go_drop (ed_call (ea_cons (ed_var rfl) ea_nil) ⟨p, b2, rfl, h2, rfl⟩) ?_)
  exact go_ret (ed_and (b1 := true) ((ed_op (ed_op (ed_var rfl) ed_int (rd_ixT (d := .int p) rfl)) (ed_op (ed_var rfl) ed_int (rd_ixT (d := .int p) rfl)) rd_eqI).is (by simp)) fun _ => ed_op (ed_call (ea_cons (ed_var rfl) ea_nil) ⟨p, b1, g1, rfl, hp, hp2, hl1, h3, rfl⟩) (ed_call (ea_cons (ed_var rfl) ea_nil) ⟨p, b2, g2, rfl, hp, hp2, hl2, h4, rfl⟩) rd_eqRow) k
theorem cot_len {p : Int} : ∀ {n : Nat} {a b g : Row}, cotM p n a b = some g → g.length ≤ 1000 := by
  intro n
  induction n with
  | zero =>
    intro a b g h
    cases b with
    | nil =>
      unfold cotM at h
      split at h
      case isFalse => cases h
      case isTrue hl =>
      split at h
      · cases h; exact Nat.zero_le _
      · unfold monicM at h
        obtain ⟨l, _, h⟩ := Option.bind_eq_some_iff.mp h
        obtain ⟨o, _, h⟩ := Option.bind_eq_some_iff.mp h
        cases h
        refine Nat.le_trans (trimM_len _) ?_
        rw [List.length_map]
        omega
    | cons y ys => cases h
  | succ n ih =>
    intro a b g h
    cases b with
    | nil =>
      unfold cotM at h
      split at h
      case isFalse => cases h
      case isTrue hl =>
      split at h
      · cases h; exact Nat.zero_le _
      · unfold monicM at h
        obtain ⟨l, _, h⟩ := Option.bind_eq_some_iff.mp h
        obtain ⟨o, _, h⟩ := Option.bind_eq_some_iff.mp h
        cases h
        refine Nat.le_trans (trimM_len _) ?_
        rw [List.length_map]
        omega
    | cons y ys =>
      unfold cotM at h
      split at h
      case isFalse => cases h
      case isTrue hl =>
      obtain ⟨_, _, h⟩ := Option.bind_eq_some_iff.mp h
      exact ih h
theorem gcdF_len {p : Int} : ∀ {rs : List Row} {f g : Row}, f.length ≤ 1000 → gcdF p f rs = some g → g.length ≤ 1000
  | [], f, g, hf, h => by
    cases h
    exact hf
  | r :: rs, f, g, hf, h => by
    obtain ⟨z, h1, h2⟩ := Option.bind_eq_some_iff.mp (show (cotM p 20 f r).bind (fun g => gcdF p g rs) = some g from h)
    exact gcdF_len (cot_len h1) h2
theorem lcmF_len {p : Int} : ∀ {rs : List Row} {f g : Row}, f.length ≤ 1000 → lcmF p f rs = some g → g.length ≤ 1000
  | [], f, g, hf, h => by
    cases h
    exact hf
  | r :: rs, f, g, hf, h => by
    unfold lcmF at h
    split at h
    case isFalse => cases h
    case isTrue hl =>
    obtain ⟨z, h4, h⟩ := Option.bind_eq_some_iff.mp h
    split at h
    case isFalse => cases h
    case isTrue hl2 =>
    obtain ⟨⟨qq, rr⟩, h5, h⟩ := Option.bind_eq_some_iff.mp h
    obtain ⟨m, h6, h⟩ := Option.bind_eq_some_iff.mp h
    split at h
    case isFalse => cases h
    case isTrue hl3 =>
    obtain ⟨f', h7, h⟩ := Option.bind_eq_some_iff.mp h
    refine lcmF_len ?_ h
    unfold monicM at h7
    obtain ⟨l, _, h7⟩ := Option.bind_eq_some_iff.mp h7
    obtain ⟨o, _, h7⟩ := Option.bind_eq_some_iff.mp h7
    cases h7
    refine Nat.le_trans (trimM_len _) ?_
    rw [List.length_map]
    exact hl3
def R_joined : List PyData → PyData → Prop := fun ds r => ∃ p b1 b2 g1 g2 bs, ds = [panelD p b1, panelD p b2] ∧ panB p b1 = true ∧ panB p b2 = true ∧ genM p b1 = some g1 ∧ genM p b2 = some g2 ∧ joinB p g1 g2 = some bs ∧ r = panelD p bs
theorem sc_joined : FnScope ["one", "other"] ["one", "other"] (C8.fnScope s_joined) := C8.fnScope_by (by decide +kernel)
theorem ok_joined (F : C8.Def K mg "joined" s_joined f fd) (b : Binds K fd ["one", "other"] []) (c_need_both : C8.Cal P w K mg base 7 "need_both" (PureF K R_need_both) []) (c_generator_of : C8.Cal P w K mg base 6 "generator_of" (PureF K R_generator_of) []) (c_gcd_of : C8.Cal P w K mg base 5 "gcd_of" (PureF K R_gcd_of) []) (c_picture_of : C8.Cal P w K mg base 1 "picture_of" (PureF K R_picture_of) []) :
    C8.Cal P w K mg base 8 "joined" (PureF K R_joined) [] := by
  refine cal_pure F b sc_joined (fun ds r h => ?_) (fun cdv A outer s H E hr ds r h => ?_)
  · obtain ⟨_, _, _, _, _, _, rfl, _⟩ := h; rfl
  obtain ⟨p, b1, b2, g1, g2, bs, rfl, h1, h2, h3, h4, h5, rfl⟩ := h
  obtain ⟨_, hp, hp2, _, hl1, _⟩ := panB_iff h1
  obtain ⟨_, _, _, _, hl2, _⟩ := panB_iff h2
  unfold joinB at h5
  obtain ⟨row, h6, h5⟩ := Option.bind_eq_some_iff.mp h5
  split at h5
  case isFalse => cases h5
  case isTrue hpan =>
  cases h5
  refine ⟨_, pss_cons (ps_expr (C8.pe_c c_need_both hr (by decide) (by rfl) (pa_cons (pv 0) (pa_cons (pv 1) pa_nil))))
    (pss_one (ps_ret (pe_tup (pa_cons (pe_ix ix_tup (pv 0) pe_int (fun _ _ => rfl)) (pa_cons (pe_tup (pa_cons (C8.pe_c c_picture_of hr (by decide) (by rfl) (pa_cons (C8.pe_c c_gcd_of hr (by decide) (by rfl) (pa_cons (pe_ix ix_tup (pv 0) pe_int (fun _ _ => rfl)) (pa_cons (pe_lst (pa_cons (C8.pe_c c_generator_of hr (by decide) (by rfl) (pa_cons (pv 0) pa_nil)) (pa_cons (C8.pe_c c_generator_of hr (by decide) (by rfl) (pa_cons (pv 1) pa_nil)) pa_nil))) pa_nil))) pa_nil)) pa_nil)) pa_nil))))), fun c D k => ?_⟩
  refine go_seq (go_drop (ed_call (ea_cons (ed_var rfl) (ea_cons (ed_var rfl) ea_nil)) ⟨p, b1, b2, rfl, h1, h2, rfl⟩) ?_)
  have ix0 : ∀ {Γ : List Sl}, Γ[0]? = some (.d (panelD p b1)) → EvD K (tOp (rIxT K) (tVar 0) (tC (.int 0))) Γ (.int p) := fun e => ed_op (ed_var e) ed_int (rd_ixT (d := .int p) rfl)
  exact go_ret (ed_tup (ea_cons (ix0 rfl) (ea_cons (ed_tup (ea_cons (ed_call (ea_cons (ed_call (ea_cons (ix0 rfl) (ea_cons (EvN.toD (en_lst (ea_cons (ed_call (ea_cons (ed_var rfl) ea_nil) ⟨p, b1, g1, rfl, hp, hp2, hl1, h3, rfl⟩) (ea_cons (ed_call (ea_cons (ed_var rfl) ea_nil) ⟨p, b2, g2, rfl, hp, hp2, hl2, h4, rfl⟩) ea_nil)) (by simp))) ea_nil))
    ⟨p, [g1, g2], row, rfl, hp, hp2, h6, rfl⟩) ea_nil) ⟨row, rfl, gcdF_len (Nat.zero_le _) h6, rfl⟩) ea_nil) (by simp)) ea_nil)) (by simp)) k
def R_shared : List PyData → PyData → Prop := fun ds r => ∃ p b1 b2 g1 g2 bs, ds = [panelD p b1, panelD p b2] ∧ panB p b1 = true ∧ panB p b2 = true ∧ genM p b1 = some g1 ∧ genM p b2 = some g2 ∧ shareB p g1 g2 = some bs ∧ r = panelD p bs
theorem sc_shared : FnScope ["one", "other"] ["one", "other"] (C8.fnScope s_shared) := C8.fnScope_by (by decide +kernel)
theorem ok_shared (F : C8.Def K mg "shared" s_shared f fd) (b : Binds K fd ["one", "other"] []) (c_need_both : C8.Cal P w K mg base 7 "need_both" (PureF K R_need_both) []) (c_generator_of : C8.Cal P w K mg base 6 "generator_of" (PureF K R_generator_of) []) (c_lcm_of : C8.Cal P w K mg base 5 "lcm_of" (PureF K R_lcm_of) []) (c_picture_of : C8.Cal P w K mg base 1 "picture_of" (PureF K R_picture_of) []) :
    C8.Cal P w K mg base 8 "shared" (PureF K R_shared) [] := by
  refine cal_pure F b sc_shared (fun ds r h => ?_) (fun cdv A outer s H E hr ds r h => ?_)
  · obtain ⟨_, _, _, _, _, _, rfl, _⟩ := h; rfl
  obtain ⟨p, b1, b2, g1, g2, bs, rfl, h1, h2, h3, h4, h5, rfl⟩ := h
  obtain ⟨_, hp, hp2, _, hl1, _⟩ := panB_iff h1
  obtain ⟨_, _, _, _, hl2, _⟩ := panB_iff h2
  unfold shareB at h5
  obtain ⟨row, h6, h5⟩ := Option.bind_eq_some_iff.mp h5
  split at h5
  case isFalse => cases h5
  case isTrue hpan =>
  cases h5
  refine ⟨_, pss_cons (ps_expr (C8.pe_c c_need_both hr (by decide) (by rfl) (pa_cons (pv 0) (pa_cons (pv 1) pa_nil))))
    (pss_one (ps_ret (pe_tup (pa_cons (pe_ix ix_tup (pv 0) pe_int (fun _ _ => rfl)) (pa_cons (pe_tup (pa_cons (C8.pe_c c_picture_of hr (by decide) (by rfl) (pa_cons (C8.pe_c c_lcm_of hr (by decide) (by rfl) (pa_cons (pe_ix ix_tup (pv 0) pe_int (fun _ _ => rfl)) (pa_cons (pe_lst (pa_cons (C8.pe_c c_generator_of hr (by decide) (by rfl) (pa_cons (pv 0) pa_nil)) (pa_cons (C8.pe_c c_generator_of hr (by decide) (by rfl) (pa_cons (pv 1) pa_nil)) pa_nil))) pa_nil))) pa_nil)) pa_nil)) pa_nil))))), fun c D k => ?_⟩
  refine go_seq (go_drop (ed_call (ea_cons (ed_var rfl) (ea_cons (ed_var rfl) ea_nil)) ⟨p, b1, b2, rfl, h1, h2, rfl⟩) ?_)
  have ix0 : ∀ {Γ : List Sl}, Γ[0]? = some (.d (panelD p b1)) → EvD K (tOp (rIxT K) (tVar 0) (tC (.int 0))) Γ (.int p) := fun e => ed_op (ed_var e) ed_int (rd_ixT (d := .int p) rfl)
  exact go_ret (ed_tup (ea_cons (ix0 rfl) (ea_cons (ed_tup (ea_cons (ed_call (ea_cons (ed_call (ea_cons (ix0 rfl) (ea_cons (EvN.toD (en_lst (ea_cons (ed_call (ea_cons (ed_var rfl) ea_nil) ⟨p, b1, g1, rfl, hp, hp2, hl1, h3, rfl⟩) (ea_cons (ed_call (ea_cons (ed_var rfl) ea_nil) ⟨p, b2, g2, rfl, hp, hp2, hl2, h4, rfl⟩) ea_nil)) (by simp))) ea_nil))
    ⟨p, [g1, g2], row, rfl, hp, hp2, h6, rfl⟩) ea_nil) ⟨row, rfl, lcmF_len (by decide) h6, rfl⟩) ea_nil) (by simp)) ea_nil)) (by simp)) k
end
end Evr
set_option Elab.async false
set_option linter.all false
set_option maxRecDepth 100000
set_option maxHeartbeats 4000000
namespace Evr
open PySem PySem.Spec PyProof.Rows L2
section
variable {K : PySem.W.Frag} {c : Cxt} {Γ : List Sl} {te ta tb : TE} {t tt tt1 : TT} {g g1 : TG} {vs vs1 : List Nat} {wi wi1 : TI} {ds : List PyData} {D : Ends} {b : Bool}
theorem go_ret_if (h : EtD K t Γ b) (h1 : b = true → Go K c Γ (tRet ta D)) (h2 : b = false → Go K c Γ (tRet tb D)) : Go K c Γ (tRet (tIf t ta tb) D) := fun H0 σ H a x =>
  h c.h H0 σ H x _ fun H1 H' a1 => by
    cases b with
    | true =>
      show ta σ H' D.rt
      exact h1 rfl H1 σ H' (a.adv a1) (x.adv a1)
    | false =>
      show tb σ H' D.rt
      exact h2 rfl H1 σ H' (a.adv a1) (x.adv a1)
theorem flat_take {α β : Type} {xs : List α} {i : Nat} {x : α} (F : α → List β) (h : xs[i]? = some x) : (xs.take (i + 1)).flatMap F = (xs.take i).flatMap F ++ F x := by
  rw [List.take_add_one, h, List.flatMap_append]
  simp
theorem flat_le {α β : Type} (F : α → List β) (xs : List α) (i : Nat) : ((xs.take i).flatMap F).length ≤ (xs.flatMap F).length := by
  have e : xs.flatMap F = (xs.take i).flatMap F ++ (xs.drop i).flatMap F := by rw [← List.flatMap_append, List.take_append_drop]
  rw [e, List.length_append]
  exact Nat.le_add_right _ _
theorem Sat.avoid {h H0 H : Hp} {σ : L2.St} {a : Addr} {o : HO} (x : Sat K h H0 σ H Γ) (n : H a = Option.none) : Sat K (upd h a o) H0 σ H Γ := by
  refine ⟨x.i, x.len, fun i s e => ?_, x.sep⟩
  obtain ⟨u, e1, q⟩ := x.at_ i s e
  refine ⟨u, e1, ?_⟩
  cases s with
  | no => trivial
  | d y => exact q
  | fr φ => exact q
  | own ys =>
    obtain ⟨p, vs, z1, z2, z3, z4, z5⟩ := q
    exact ⟨p, vs, z1, by rw [upd_ne (ne_of_none z4 n)]; exact z2, z3, z4, z5⟩
  | obj u =>
    obtain ⟨p, z1, z2, z3, z4, z5⟩ := q
    exact ⟨p, z1, by rw [upd_ne (ne_of_none z4 n)]; exact z2, z3, z4, z5⟩
/-- [e for a in as for b in bs] -/
theorem en_lc2 (F : PyData → List PyData) (hi : ItD K wi Γ ds) (hl : (ds.flatMap F).length < 100000)
    (hs : ∀ (i : Nat) d, ds[i]? = some d → ∃ Γ2, TgW K g vs d (wipeG Γ vs) Γ2 ∧ EtD K tt Γ2 true ∧ ∃ es, ItD K wi1 Γ2 es ∧ es.length = (F d).length ∧
      ∀ (j : Nat) e, es[j]? = some e → ∃ y, (F d)[j]? = some y ∧ ∃ Γ3, TgW K g1 vs1 e (wipeG Γ2 vs1) Γ3 ∧ EtD K tt1 Γ3 true ∧ EvD K te Γ3 y) :
    EvN K (tLc2 wi g tt wi1 g1 tt1 te vs vs1) Γ (ds.flatMap F) := fun hh H0 σ Hs x Q q => hi hh H0 σ Hs x _ fun J Hf H1 a w D hD => by
  have xa := (x.adv a).avoid (o := .lst []) hD
  generalize hk : upd hh D (.lst []) = h' at xa
  refine ⟨fun i m H => m = ds.length - i ∧ i ≤ ds.length ∧ ∃ G0 us, Adv Hf H1 G0 H ∧ G0 D = none ∧ H D = some (.lst us) ∧ DpAll K G0 us ((ds.take i).flatMap F), ⟨_, rfl, Nat.zero_le _, Hf, [], (Adv.refl a.i).write hD (a.i.free hD), a.i.free hD, upd_same, .nil⟩, ?_⟩
  rintro i m H ⟨rfl, hle, G0, us, aH, n0, eD, dd⟩
  by_cases hlt : i < ds.length
  · refine .inr ⟨w.go i H hlt (aH.b.trans aH.i), fun H' => i + 1 ≤ ds.length ∧ ∃ G0 us, Adv Hf H1 G0 H' ∧ G0 D = none ∧ H' D = some (.lst us) ∧ DpAll K G0 us ((ds.take (i + 1)).flatMap F), fun H' p => ⟨_, by omega, rfl, p.1, p.2⟩, fun v H' y => ?_⟩
    obtain ⟨d, e, k⟩ := w.yld i H v H' hlt (aH.b.trans aH.i) y
    obtain ⟨G1, a1, e1⟩ := k G0 aH.b aH.i
    have x1 : Sat K h' G1 (wipe σ vs) H' (wipeG Γ vs) := ((xa.adv (aH.trans a1))).wipe vs
    obtain ⟨Γ2, tg, ht, es, hi2, hl2, hs2⟩ := hs i d e
    refine tg h' G1 _ H' v x1 e1 _ fun σ' w1 x2 => ⟨w1.trans wipe_wipe, ?_⟩
    refine ht h' G1 σ' H' x2 _ fun G2 H2 a2 => ?_
    refine hi2 h' G2 σ' H2 (x2.adv a2) _ fun J1 Hf2 H3 a3 w2 => ?_
    have a13 := aH.trans (a1.trans (a2.trans a3))
    have keep3 := (a1.trans (a2.trans a3)).keep n0 eD
    refine ⟨fun j k H => k = es.length - j ∧ j ≤ es.length ∧ ∃ G0 us, Adv Hf H1 G0 H ∧ Same Hf2 G0 ∧ Sat K h' G0 σ' H Γ2 ∧ G0 D = none ∧ H D = some (.lst us) ∧ DpAll K G0 us ((ds.take i).flatMap F ++ (F d).take j), ⟨_, rfl, Nat.zero_le _, Hf2, us, a13, Same.refl _, (x2.adv a2).adv a3, keep3.1, keep3.2, ?_⟩, ?_⟩
    · rw [List.take_zero, List.append_nil]
      exact dps_mono (a1.trans (a2.trans a3)).b _ _ dd
    rintro j kk H ⟨rfl, hle2, G4, us4, a4, s4, x4, n4, e4, dd4⟩
    by_cases hlt2 : j < es.length
    · refine .inr ⟨w2.go j H hlt2 (s4.trans a4.i), fun H' => j + 1 ≤ es.length ∧ ∃ G0 us, Adv Hf H1 G0 H' ∧ Same Hf2 G0 ∧ Sat K h' G0 σ' H' Γ2 ∧ G0 D = none ∧ H' D = some (.lst us) ∧ DpAll K G0 us ((ds.take i).flatMap F ++ (F d).take (j + 1)), fun H' p => ⟨_, by omega, rfl, p.1, p.2⟩, fun v H' y => ?_⟩
      obtain ⟨d2, e2, k2⟩ := w2.yld j H v H' hlt2 (s4.trans a4.i) y
      obtain ⟨G5, a5, e5⟩ := k2 G4 s4 a4.i
      obtain ⟨yy, ey, Γ3, tg3, ht3, hv3⟩ := hs2 j d2 e2
      refine tg3 h' G5 _ H' v ((x4.adv a5).wipe vs1) e5 _ fun σ'' w3 x5 => ⟨w3.trans wipe_wipe, ?_⟩
      refine ht3 h' G5 σ'' H' x5 _ fun G6 H6 a6 => ?_
      show te σ'' H6 _
      refine hv3 h' G6 σ'' H6 (x5.adv a6) _ fun u G7 H7 a7 e7 => ?_
      have a57 := a5.trans (a6.trans a7)
      have keep7 := a57.keep n4 e4
      have dd7 := dps_mono a57.b _ _ dd4
      have hlen : us4.length < 100000 := by
        rw [dps_len dd4, List.length_append, List.length_take]
        have h1 := flat_le F ds (i + 1)
        rw [flat_take F e, List.length_append] at h1
        have h2 : min j (F d).length ≤ (F d).length := Nat.min_le_right _ _
        omega
      have xw : Sat K h' G7 σ' (upd H7 D (.lst (us4 ++ [u]))) Γ2 := by
        have x7 := (x4.adv a57)
        refine ⟨fun b o z => by rw [upd_ne (ne_of_none z keep7.1)]; exact x7.i b o z, x7.len, fun ii s z => ?_, x7.sep⟩
        obtain ⟨o, o1, o2⟩ := x7.at_ ii s z
        refine ⟨o, o1, ?_⟩
        cases s with
        | no => trivial
        | d y => exact o2
        | fr φ => exact o2
        | own ys =>
          obtain ⟨r, ws, z1, z2, z3, z4, z5⟩ := o2
          refine ⟨r, ws, z1, z2, z3, ?_, z5⟩
          have hne : r ≠ D := fun er => by
            rw [er, ← hk, upd_same] at z2
            cases z2
          rw [upd_ne hne]
          exact z4
        | obj u =>
          obtain ⟨r, z1, z2, z3, z4, z5⟩ := o2
          refine ⟨r, z1, z2, z3, ?_, z5⟩
          have hne : r ≠ D := fun er => by
            rw [er, ← hk, upd_same] at z2
            cases z2
          rw [upd_ne hne]
          exact z4
      refine ⟨us4, keep7.2, Nat.lt_of_lt_of_le hlen (show 100000 ≤ sizeLine by decide), hlt2, G7, _, (a4.trans a57).write hD keep7.1, s4.trans a57.b, xw, keep7.1, upd_same, ?_⟩
      rw [List.take_add_one, ey, ← List.append_assoc]
      exact dps_snoc dd7 e7
    · have ej : j = es.length := by omega
      subst ej
      refine .inl ⟨w2.stop H (s4.trans a4.i), hlt, G4, us4, a4, n4, e4, ?_⟩
      rw [flat_take F e]
      rw [hl2, List.take_length] at dd4
      exact dd4
  · have e : i = ds.length := by omega
    subst e
    refine .inl ⟨w.stop H (aH.b.trans aH.i), ?_⟩
    rw [List.take_length] at dd
    have := q D us G0 (hid H D) ((a.trans aH).hid (a.s.free hD) n0) hid_at dd
    rw [hid_back eD] at this
    exact this
end
end Evr
set_option Elab.async false
set_option linter.all false
set_option maxRecDepth 100000
set_option maxHeartbeats 4000000
namespace Evr
open PySem PySem.Spec PyProof.Rows L2
section
variable {P : Program} {w : World} {K : PySem.W.Frag} {mg : Str → Option Value} {base : Heap} {f : Addr} {fd : FuncData}
/-! least_power -/
def R_least_power : List PyData → PyData → Prop := fun ds r => ∃ p b l, ds = [.int p, .int b] ∧ leastM p b = some l ∧ r = .int l
theorem sc_least_power : FnScope ["prime", "bound", "found"] ["prime", "bound"] (C8.fnScope s_least_power) := C8.fnScope_by (by decide +kernel)
theorem ok_least_power (F : C8.Def K mg "least_power" s_least_power f fd) (b : Binds K fd ["prime", "bound"] []) : C8.Cal P w K mg base 1 "least_power" (PureF K R_least_power) [] := by
  refine cal_pure F b sc_least_power (fun ds r h => ?_) (fun cdv A outer s H E hr ds r h => ?_)
  · obtain ⟨_, _, _, rfl, _⟩ := h; rfl
  obtain ⟨p, bd, l, rfl, hm, rfl⟩ := h
  refine ⟨_, pss_cons (ps_set (i := 2) sc_least_power.nd rfl (.inl rfl) pe_int) (pss_cons (ps_while PassesOwn.never (pt_cmpR op_lt (pv 2) (pv 1) (nomark _)) (pss_one (ps_set (i := 2) sc_least_power.nd rfl (.inl rfl) (pe_op op_mul (pv 2) (pv 0))))) (pss_one (ps_ret (pv 2)))), fun c D k => ?_⟩
  refine go_seq (go_asg (d := .int 1) ed_int ?_)
  refine go_seq (go_while (Inv := fun m Γ => ∃ fo : Int, Γ = [.d (.int p), .d (.int bd), .d (.int fo)] ∧ lpW p bd m fo = some l) 20 ⟨1, rfl, hm⟩ ?_)
  rintro m Γ ⟨fo, rfl, hf⟩
  refine ⟨decide (fo < bd), et_test (ed_ib (ed_var rfl) (ed_var rfl)), fun q => ?_, fun q => ?_⟩
  · have q' := of_decide_eq_true q
    cases m with
    | zero =>
      unfold lpW at hf
      rw [if_pos q'] at hf
      cases hf
    | succ m =>
      replace hf : (if smallI fo then lpW p bd m (fo * p) else none) = some l := by
        unfold lpW at hf
        rw [if_pos q'] at hf
        exact hf
      split at hf
      case isFalse => cases hf
      case isTrue hs => exact go_asg (ed_i (ed_var rfl) (ed_var rfl) (.inl (smallI_iff hs))) (go_nxW (Nat.lt_succ_self m) ⟨_, rfl, hf⟩)
  · have q' := of_decide_eq_false q
    have e : fo = l := by
      cases m <;>
      · unfold lpW at hf
        rw [if_neg q'] at hf
        exact Option.some.inj hf
    rw [← e] at k
    exact go_ret (ed_var rfl) k
/-! divisors_that_are_prime -/
def R_divisors_that_are_prime : List PyData → PyData → Prop := fun ds r => ∃ (n : Int) (l : List Int), ds = [.int n] ∧ divisorsM n = some l ∧ r = .list (rowsI l)
abbrev N_divisors : List Str := ["number", "found", "left", "divisor"]
theorem sc_divisors_that_are_prime : FnScope N_divisors ["number"] (C8.fnScope s_divisors_that_are_prime) := C8.fnScope_by (by decide +kernel)
theorem ok_divisors_that_are_prime (F : C8.Def K mg "divisors_that_are_prime" s_divisors_that_are_prime f fd) (b : Binds K fd ["number"] []) : C8.Cal P w K mg base 1 "divisors_that_are_prime" (PureF K R_divisors_that_are_prime) [] := by
  refine cal_pure F b sc_divisors_that_are_prime (fun ds r h => ?_) (fun cdv A outer s H E hr ds r h => ?_)
  · obtain ⟨_, _, rfl, _⟩ := h; rfl
  obtain ⟨n, l, rfl, hm, rfl⟩ := h
  refine ⟨_, pss_cons (ps_set (i := 1) sc_divisors_that_are_prime.nd rfl (.inl rfl) (pe_lst pa_nil)) (pss_cons (ps_set (i := 2) sc_divisors_that_are_prime.nd rfl (.inl rfl) (pv 0)) (pss_cons (ps_set (i := 3) sc_divisors_that_are_prime.nd rfl (.inl rfl) pe_int)
    (pss_cons (ps_while PassesOwn.never (pt_cmpR op_le (pe_op op_mul (pv 3) (pv 3)) (pv 2) (nomark _))
      (pss_cons (ps_if (pt_cmpR op_eq (pe_op op_mod (pv 2) (pv 3)) pe_int (nomark _)) (pss_cons (ps_expr (pe_bm PySem.F.plainAttrs_list PySem.F.slot_list_append PySem.F.type_list_append mt_append (pv 1) (pa_cons (pv 3) pa_nil))) (pss_one (ps_while PassesOwn.never (pt_cmpR op_eq (pe_op op_mod (pv 2) (pv 3)) pe_int (nomark _)) (pss_one (ps_set (i := 2) sc_divisors_that_are_prime.nd rfl (.inl rfl) (pe_op op_fdiv (pv 2) (pv 3))))))) pss_nil)
      (pss_one (ps_set (i := 3) sc_divisors_that_are_prime.nd rfl (.inl rfl) (pe_op op_add (pv 3) pe_int)))))
    (pss_one (ps_ret (pe_ifExp (pt_cmpR op_gt (pv 2) pe_int (nomark _)) (pe_op op_cat (pv 1) (pe_lst (pa_cons (pv 2) pa_nil))) (pv 1))))))), fun c D k => ?_⟩
  refine go_seq (go_asgN (es := rowsI []) (en_lst ea_nil (by decide)) ?_)
  refine go_seq (go_asg (d := .int n) (ed_var rfl) ?_)
  dsimp only
  refine go_seq (go_asg (d := .int 2) ed_int ?_)
  refine go_seq (go_while (Inv := fun m Γ => ∃ (fo : Row) (left d : Int), Γ = [.d (.int n), .own (rowsI fo), .d (.int left), .d (.int d)] ∧ 2 ≤ d ∧ d + m ≤ 32 ∧ fo.length + m ≤ 30 ∧ dvW m left d fo = some l) 30 ⟨[], n, 2, rfl, by omega, by omega, Nat.le_refl _, hm⟩ ?_)
  rintro m Γ ⟨fo, left, d, rfl, hd, hdm, hfl, hf⟩
  refine ⟨decide (d * d ≤ left), et_test (ed_ib (ed_i (ed_var rfl) (ed_var rfl) (.inl ⟨by omega, by show d < 18446744073709551616; omega⟩)) (ed_var rfl)), fun q => ?_, fun q => ?_⟩
  · have q' := of_decide_eq_true q
    cases m with
    | zero =>
      unfold dvW at hf
      rw [if_pos q'] at hf
      cases hf
    | succ m =>
      unfold dvW at hf
      rw [if_pos q'] at hf
      refine go_seq (go_if (b := decide (left % d = 0)) (et_test (ed_op (ed_i (ed_var rfl) (ed_var rfl) (by omega)) ed_int rd_eqI)) (fun q1 => ?_) (fun q1 => go_next ?_))
      · have q2 := of_decide_eq_true q1
        replace hf : (dvIn 20 left d).bind (fun l' => dvW m l' (d + 1) (fo ++ [d])) = some l := by
          have : (if left % d = 0 then (dvIn 20 left d).bind (fun l' => dvW m l' (d + 1) (fo ++ [d])) else dvW m left (d + 1) fo) = some l := hf
          rw [if_pos q2] at this
          exact this
        obtain ⟨l', h1, h2⟩ := Option.bind_eq_some_iff.mp hf
        refine go_seq (go_app (xs := rowsI fo) (d := .int d) rfl (ed_var rfl) (by rw [len_rows]; omega) ?_)
        refine go_while (Inv := fun u Γ => ∃ (left : Int), Γ = [.d (.int n), .own (rowsI (fo ++ [d])), .d (.int left), .d (.int d)] ∧ dvIn u left d = some l') 20 ⟨left, by show _ = [_, Sl.own (rowsI (fo ++ [d])), _, _]; rw [show rowsI (fo ++ [d]) = rowsI fo ++ [.int d] from List.map_append]; rfl, h1⟩ ?_
        rintro u Γ ⟨left, rfl, h3⟩
        refine ⟨decide (left % d = 0), et_test (ed_op (ed_i (ed_var rfl) (ed_var rfl) (by omega)) ed_int rd_eqI), fun q3 => ?_, fun q3 => ?_⟩
        · have q4 := of_decide_eq_true q3
          cases u with
          | zero =>
            unfold dvIn at h3
            rw [if_pos q4] at h3
            cases h3
          | succ u =>
            unfold dvIn at h3
            rw [if_pos q4] at h3
            exact go_asg (ed_i (ed_var rfl) (ed_var rfl) ⟨by omega, by omega⟩) (go_nxW (Nat.lt_succ_self u) ⟨_, rfl, h3⟩)
        · have q4 := of_decide_eq_false q3
          have e3 : left = l' := by
            cases u <;>
            · unfold dvIn at h3
              rw [if_neg q4] at h3
              exact Option.some.inj h3
          subst e3
          exact go_asg (ed_i0 (ed_var rfl) ed_int) (go_nxW (Nat.lt_succ_self m) ⟨fo ++ [d], left, d + 1, rfl, by omega, by omega, by rw [List.length_append]; show fo.length + 1 + m ≤ 30; omega, h2⟩)
      · have q2 := of_decide_eq_false q1
        replace hf : dvW m left (d + 1) fo = some l := by
          have : (if left % d = 0 then (dvIn 20 left d).bind (fun l' => dvW m l' (d + 1) (fo ++ [d])) else dvW m left (d + 1) fo) = some l := hf
          rw [if_neg q2] at this
          exact this
        exact go_asg (ed_i0 (ed_var rfl) ed_int) (go_nxW (Nat.lt_succ_self m) ⟨fo, left, d + 1, rfl, by omega, by omega, by omega, hf⟩)
  · have q' := of_decide_eq_false q
    have hf' : (if left > 1 then fo ++ [left] else fo) = l := by
      cases m <;>
      · unfold dvW at hf
        rw [if_neg q'] at hf
        exact Option.some.inj hf
    refine go_ret_if (b := decide (1 < left)) (et_test (ed_ib (g := fun i j => decide (j < i)) (i := left) (j := 1) (ed_var rfl) ed_int)) (fun q1 => ?_) (fun q1 => ?_)
    · rw [if_pos (of_decide_eq_true q1)] at hf'
      rw [← hf'] at k
      refine go_ret (EvN.toD ((en_cat (ls_own rfl) (ls_new (en_lst (ea_cons (ed_var rfl) ea_nil) (by simp))) ?_).is ?_)) k
      · rw [len_rows]; show fo.length + 1 ≤ 100000; omega
      · rw [show rowsI (fo ++ [left]) = rowsI fo ++ [.int left] from List.map_append]
    · rw [if_neg (of_decide_eq_false q1)] at hf'
      rw [← hf'] at k
      exact go_freeze (i := 1) rfl (go_ret (ed_var rfl) k)
end
end Evr
set_option Elab.async false
set_option linter.all false
set_option maxRecDepth 100000
set_option maxHeartbeats 4000000
namespace Evr
open PySem PySem.Spec PyProof.Rows L2
theorem ordW_nn {p : Int} {fa one : Row} {d : Int} {n : Nat} {f g : Int} (h : ordW p fa one d n f = some g) (hd : 0 < d) (hf : 0 ≤ f) : 0 ≤ g := by
  induction n generalizing f with
  | zero =>
    unfold ordW at h
    split at h
    · obtain ⟨z, _, h⟩ := Option.bind_eq_some_iff.mp h
      split at h
      · cases h
      · cases h; exact hf
    · cases h; exact hf
  | succ n ih =>
    unfold ordW at h
    split at h
    · obtain ⟨z, _, h⟩ := Option.bind_eq_some_iff.mp h
      split at h
      · exact ih h (Int.ediv_nonneg hf (Int.le_of_lt hd))
      · cases h; exact hf
    · cases h; exact hf
theorem ints_get {rows : List Int} {i : Nat} {d : PyData} (h : (rowsI rows)[i]? = some d) : ∃ r, rows[i]? = some r ∧ d = .int r ∧ rows.drop i = r :: rows.drop (i + 1) := by
  rw [List.getElem?_map] at h
  cases q : rows[i]? with
  | none => rw [q] at h; cases h
  | some r =>
    rw [q] at h
    cases h
    obtain ⟨h1, h2⟩ := List.getElem?_eq_some_iff.mp q
    exact ⟨r, rfl, rfl, by rw [List.drop_eq_getElem_cons h1, h2]⟩
section
variable {P : Program} {w : World} {K : PySem.W.Frag} {mg : Str → Option Value} {base : Heap} {f : Addr} {fd : FuncData}
/-! order_of_factor -/
def R_order_of_factor : List PyData → PyData → Prop := fun ds r => ∃ (p : Int) (fa : Row) (o : Int), ds = [.int p, rowD fa] ∧ 0 < p ∧ p ≤ 1000 ∧ orderM p fa = some o ∧ r = .int o
abbrev N_order : List Str := ["prime", "factor", "found", "turn", "one", "divisor"]
theorem sc_order_of_factor : FnScope N_order ["prime", "factor"] (C8.fnScope s_order_of_factor) := C8.fnScope_by (by decide +kernel)
theorem ok_order_of_factor (T : Txt K mg) (F : C8.Def K mg "order_of_factor" s_order_of_factor f fd) (b : Binds K fd ["prime", "factor"] []) (c_divided : C8.Cal P w K mg base 2 "divided" (PureF K R_divided) []) (c_divisors : C8.Cal P w K mg base 1 "divisors_that_are_prime" (PureF K R_divisors_that_are_prime) []) (c_power : C8.Cal P w K mg base 3 "power_of_x" (PureF K R_power_of_x) []) :
    C8.Cal P w K mg base 4 "order_of_factor" (PureF K R_order_of_factor) [] := by
  refine cal_pure F b sc_order_of_factor (fun ds r h => ?_) (fun cdv A outer s H E hr ds r h => ?_)
  · obtain ⟨_, _, _, rfl, _⟩ := h; rfl
  obtain ⟨p, fa, o, rfl, hp, hp2, hm, rfl⟩ := h
  refine ⟨_, pss_cons (ps_set (i := 2) sc_order_of_factor.nd rfl (.inl rfl) pe_int)
    (pss_cons (ps_for PassesOwn.never rfl (pi_range1 (by rfl) T.range_ (pa_cons (pe_op op_sub (pe_callB call_len_seq (by rfl) T.len_ PySem.boot_len (pa_cons (pv 1) pa_nil)) pe_int) pa_nil)) (pg_name (i := 3) sc_order_of_factor.nd rfl (.inl rfl)) (pss_one (ps_set (i := 2) sc_order_of_factor.nd rfl (.inl rfl) (pe_op op_mul (pv 2) (pv 0)))))
    (pss_cons (ps_set (i := 2) sc_order_of_factor.nd rfl (.inl rfl) (pe_op op_sub (pv 2) pe_int))
    (pss_cons (ps_set (i := 4) sc_order_of_factor.nd rfl (.inl rfl) (pe_ix ix_tup (C8.pe_c c_divided hr (by decide) (by rfl) (pa_cons (pv 0) (pa_cons (pe_tup (pa_cons pe_int pa_nil)) (pa_cons (pv 1) pa_nil)))) pe_int (fun _ _ => rfl)))
    (pss_cons (ps_for PassesOwn.never rfl (pi_list (C8.pe_c c_divisors hr (by decide) (by rfl) (pa_cons (pv 2) pa_nil))) (pg_name (i := 5) sc_order_of_factor.nd rfl (.inl rfl))
      (pss_one (ps_while PassesOwn.never (PW.pt (pw_and (pt_cmpR op_eq (pe_op op_mod (pv 2) (pv 5)) pe_int (nomark _)) (pw_and1 (pt_cmpR (op_eqD hr.units) (C8.pe_c c_power hr (by decide) (by rfl) (pa_cons (pv 0) (pa_cons (pe_op op_fdiv (pv 2) (pv 5)) (pa_cons (pv 1) pa_nil)))) (pv 4) (nomark _)))))
        (pss_one (ps_set (i := 2) sc_order_of_factor.nd rfl (.inl rfl) (pe_op op_fdiv (pv 2) (pv 5)))))))
    (pss_one (ps_ret (pv 2))))))), fun c D k => ?_⟩
  unfold orderM at hm
  split at hm
  case isTrue => cases hm
  case isFalse hl =>
  have hl1 : fa.length ≤ 20 := by
    rcases Nat.lt_or_ge 20 fa.length with z | z
    · exact absurd (.inl z) hl
    · exact z
  have hl0 : 0 < fa.length := by
    cases fa with
    | nil => exact absurd (.inr rfl) hl
    | cons _ _ => exact Nat.succ_pos _
  obtain ⟨⟨a1, a2⟩, h1, hm⟩ := Option.bind_eq_some_iff.mp hm
  obtain ⟨ds, h2, hm⟩ := Option.bind_eq_some_iff.mp hm
  have hrange : ((fa.length : Int) - 1).toNat = fa.length - 1 := by omega
  refine go_seq (go_asg (d := .int 1) ed_int ?_)
  refine go_seq (go_for (ds := rangeD 0 ((fa.length : Int) - 1).toNat) (Inv := fun i Γ => ∃ x3, Γ = [.d (.int p), .d (rowD fa), .d (.int (powI p i)), x3, .no, .no])
    (it_range1 (ea_cons (ed_i0 ((ed_cb1 (ed_var rfl) rc_lenT).is (by rw [List.length_map])) ed_int) ea_nil) (by omega) (by omega)) ⟨_, rfl⟩ ?_ ?_)
  · rintro b0 hb0 i d Γi e ⟨x3, rfl⟩
    refine ⟨_, tg_name, ?_⟩
    refine go_asg (ed_i (ed_var rfl) (ed_var rfl) (.inr ⟨by omega, by show p < 18446744073709551616; omega⟩)) (go_nx ?_)
    exact ⟨_, rfl⟩
  rintro Γn ⟨x3, rfl⟩
  rw [rangeD_len, hrange]
  dsimp only
  refine go_seq (go_asg (ed_i0 (ed_var rfl) ed_int) ?_)
  refine go_seq (go_asg (d := rowD a2) (ed_op (ed_call (ea_cons (ed_var rfl) (ea_cons (ed_tup (ea_cons ed_int ea_nil) (by simp)) (ea_cons (ed_var rfl) ea_nil))) ⟨p, [1], fa, a1, a2, rfl, hp, hp2, by decide, by omega, h1, rfl⟩) ed_int (rd_ixT (d := rowD a2) rfl)) ?_)
  have hnn : 0 ≤ powI p (fa.length - 1) - 1 := by
    have : ∀ n, 1 ≤ powI p n := by
      intro n
      induction n with
      | zero => exact Int.le_refl 1
      | succ n ih =>
        show 1 ≤ powI p n * p
        have := Int.mul_le_mul ih (show 1 ≤ p by omega) (by decide) (by omega)
        omega
    have := this (fa.length - 1)
    omega
  refine go_seq (go_for (ds := rowsI ds) (Inv := fun i Γ => ∃ fo x5, Γ = [.d (.int p), .d (rowD fa), .d (.int fo), x3, .d (rowD a2), x5] ∧ 0 ≤ fo ∧ ordF p fa a2 (ds.drop i) fo = some o)
    (it_list (ed_call (ea_cons (ed_var rfl) ea_nil) ⟨_, ds, rfl, h2, rfl⟩)) ⟨_, _, rfl, hnn, hm⟩ ?_ ?_)
  · rintro b0 hb0 i d Γi e ⟨fo, x5, rfl, hfo, hf⟩
    obtain ⟨dv, h3, rfl, h4⟩ := ints_get e
    rw [h4] at hf
    unfold ordF at hf
    split at hf
    case isFalse => cases hf
    case isTrue hc =>
    obtain ⟨fo', h5, h6⟩ := Option.bind_eq_some_iff.mp hf
    refine ⟨_, tg_name, ?_⟩
    refine go_while (Inv := fun u Γ => ∃ fo : Int, Γ = [.d (.int p), .d (rowD fa), .d (.int fo), x3, .d (rowD a2), .d (.int dv)] ∧ 0 ≤ fo ∧ ordW p fa a2 dv u fo = some fo') 20 ⟨fo, rfl, hfo, h5⟩ ?_
    rintro u Γ ⟨fo, rfl, hfo, h5⟩
    by_cases hmod : fo % dv = 0
    · have hz : ∃ z, powM p (fo / dv).toNat fa = some z ∧ (if z = a2 then (match u with
          | 0 => none
          | n + 1 => ordW p fa a2 dv n (fo / dv)) else some fo) = some fo' := by
        cases u <;>
        · unfold ordW at h5
          rw [if_pos hmod] at h5
          exact Option.bind_eq_some_iff.mp h5
      obtain ⟨z, h7, h8⟩ := hz
      have ez : (((fo / dv).toNat : Nat) : Int) = fo / dv := Int.toNat_of_nonneg (Int.ediv_nonneg hfo (Int.le_of_lt hc.1))
      refine ⟨decide (fo % dv = 0) && decide (z = a2), et_and (et_test (ed_op (ed_i (ed_var rfl) (ed_var rfl) hc.1) ed_int rd_eqI)) (fun _ => et_test (ed_op (ed_call (ea_cons (ed_var rfl) (ea_cons ((ed_i (ed_var rfl) (ed_var rfl) ⟨hc.1, hc.2.1⟩).is (d2 := .int (((fo / dv).toNat : Nat) : Int)) (by rw [ez])) (ea_cons (ed_var rfl) ea_nil))) ⟨p, (fo / dv).toNat, fa, z, rfl, hp, hp2, h7, rfl⟩) (ed_var rfl) rd_eqRow)), fun q => ?_, fun q => ?_⟩
      · rw [decide_eq_true hmod, Bool.true_and] at q
        rw [if_pos (of_decide_eq_true q)] at h8
        cases u with
        | zero => cases h8
        | succ u => exact go_asg (ed_i (ed_var rfl) (ed_var rfl) ⟨hc.1, hc.2.1⟩) (go_nxW (Nat.lt_succ_self u) ⟨_, rfl, Int.ediv_nonneg hfo (Int.le_of_lt hc.1), h8⟩)
      · rw [decide_eq_true hmod, Bool.true_and] at q
        rw [if_neg (of_decide_eq_false q)] at h8
        cases h8
        refine go_nx ?_
        exact ⟨_, _, rfl, hfo, h6⟩
    · have hz : some fo = some fo' := by
        cases u <;>
        · unfold ordW at h5
          rw [if_neg hmod] at h5
          exact h5
      cases hz
      refine ⟨false, et_and (b1 := false) (b2 := false) ((et_test (ed_op (ed_i (C := fun _ j => 0 < j) (g := fun i j => i % j) (ed_var rfl) (ed_var rfl) hc.1) ed_int rd_eqI)).is (decide_eq_false hmod)) (fun z => by cases z), fun q => (by cases q), fun q => ?_⟩
      refine go_nx ?_
      exact ⟨_, _, rfl, hfo, h6⟩
  · rintro Γn ⟨fo, x5, rfl, hfo, hf⟩
    rw [len_rows, List.drop_length] at hf
    cases hf
    exact go_ret (ed_var rfl) k
/-! rows_of_degree -/
def R_rows_of_degree : List PyData → PyData → Prop := fun ds r => ∃ (p : Int) (d : Nat), ds = [.int p, .int (d : Int)] ∧ 0 < p ∧ p ≤ 5 ∧ d ≤ 3 ∧ r = .list ((rodM p d).map rowD)
abbrev N_rod : List Str := ["prime", "degree", "found", "at", "row", "colour"]
theorem sc_rows_of_degree : FnScope N_rod ["prime", "degree"] (C8.fnScope s_rows_of_degree) := C8.fnScope_by (by decide +kernel)
def moreF (lo p : Int) : PyData → List PyData := fun d => match d with
  | .tuple xs => (intsTo lo p).map fun c => .tuple (xs ++ [.int c])
  | _ => []
theorem moreF_rows {lo p : Int} {rows : List Row} : (rows.map rowD).flatMap (moreF lo p) = (rows.flatMap fun r => (intsTo lo p).map fun c => r ++ [c]).map rowD := by
  rw [List.flatMap_map, List.map_flatMap]
  congr 1
  funext r
  show (intsTo lo p).map (fun c => PyData.tuple (r.map PyData.int ++ [.int c])) = _
  rw [List.map_map]
  congr 1
  funext c
  show _ = PyData.tuple ((r ++ [c]).map PyData.int)
  rw [List.map_append]
  rfl
theorem intsTo_len {lo p : Int} (h : p ≤ 5) (hl : 0 ≤ lo) : (intsTo lo p).length ≤ 5 := by
  unfold intsTo
  rw [List.length_map, List.length_range]
  omega
theorem more_len {lo p : Int} (h : p ≤ 5) (hl : 0 ≤ lo) (rows : List Row) : (rows.flatMap fun r => (intsTo lo p).map fun c => r ++ [c]).length ≤ 5 * rows.length := by
  induction rows with
  | nil => simp
  | cons r rows ih =>
    rw [List.flatMap_cons, List.length_append, List.length_map, List.length_cons]
    have := intsTo_len h hl
    omega
theorem ok_rows_of_degree (T : Txt K mg) (F : C8.Def K mg "rows_of_degree" s_rows_of_degree f fd) (b : Binds K fd ["prime", "degree"] []) : C8.Cal P w K mg base 1 "rows_of_degree" (PureF K R_rows_of_degree) [] := by
  refine cal_pure F b sc_rows_of_degree (fun ds r h => ?_) (fun cdv A outer s H E hr ds r h => ?_)
  · obtain ⟨_, _, rfl, _⟩ := h; rfl
  obtain ⟨p, d, rfl, hp, hp2, hd, rfl⟩ := h
  refine ⟨_, pss_cons (ps_set (i := 2) sc_rows_of_degree.nd rfl (.inl rfl) (pe_lst (pa_cons (pe_tup pa_nil) pa_nil)))
    (pss_cons (ps_for PassesOwn.never rfl (pi_range1 (by rfl) T.range_ (pa_cons (pv 1) pa_nil)) (pg_name (i := 3) sc_rows_of_degree.nd rfl (.inr rfl))
      (pss_one (ps_setLc2 (i := 2) (own := [("row", 4), ("colour", 5)]) (vs1 := [5]) (g := gName 4) (g1 := gName 5) (by rfl) sc_rows_of_degree.nd rfl rfl (sw_true rfl rfl rfl (by decide +kernel)) (pi_list (pv 2)) (blkOk_by (N := N_rod) (sc := C8.fnScope s_rows_of_degree) (by decide +kernel)) (by decide)
        (fun _ _ _ _ _ => pg_name (i := 4) sc_rows_of_degree.nd rfl (.inl rfl)) (fun _ _ _ _ _ => pts_nil)
        (fun _ _ _ _ _ => pi_range2 (by rfl) T.range_ (pa_cons (pe_callTy (r := rIntQ) call_int1 (by rfl) T.int_ (by decide +kernel) (pa_cons (pe_cmpR op_eq (pv 3) pe_int (nomark _)) pa_nil)) (pa_cons (pv 0) pa_nil)))
        (fun _ _ _ _ _ => pg_name (i := 5) sc_rows_of_degree.nd rfl (.inl rfl)) (fun _ _ _ _ _ => pts_nil)
        (fun _ _ _ _ _ => pe_op (r := rCatA K) op_catA (pv 4) (pe_tup (pa_cons (pv 5) pa_nil))))))
    (pss_one (ps_ret (pe_lc (own := [("row", 4)]) (g := gName 4) (by rfl) sc_rows_of_degree.nd (pi_list (pv 2)) (blkOk_by (N := N_rod) (sc := C8.fnScope s_rows_of_degree) (by decide +kernel)) (fun _ _ _ _ _ => pg_name (i := 4) sc_rows_of_degree.nd rfl (.inl rfl)) (fun _ _ _ _ _ => pts_nil) (fun _ _ _ _ _ => pe_op (r := rCatA K) op_catA (pv 4) (pe_tup (pa_cons pe_int pa_nil))))))), fun c D k => ?_⟩
  refine go_seq (go_asg (d := .list (([[]] : List Row).map rowD)) (EvN.toD (en_lst (ea_cons (ed_tup ea_nil (by decide)) ea_nil) (by simp))) ?_)
  refine go_seq (go_for (ds := rangeD 0 (d : Int).toNat) (Inv := fun i Γ => ∃ rows x3 x4 x5, Γ = [.d (.int p), .d (.int (d : Int)), .d (.list (rows.map rowD)), x3, x4, x5] ∧ rows.length ≤ 5 ^ i ∧ (∀ r ∈ rows, r.length ≤ i) ∧ rodF p (d - i) i rows = rodF p d 0 [[]])
    (it_range1 (ea_cons (ed_var rfl) ea_nil) (by omega) (by omega)) ⟨[[]], _, _, _, rfl, Nat.le_refl _, fun r hr => ?_, rfl⟩ ?_ ?_)
  · rw [List.mem_singleton.mp hr]
    exact Nat.le_refl _
  · rintro b0 hb0 i dd Γi e ⟨rows, x3, x4, x5, rfl, hl1, hl2, hf⟩
    have hi : i < d := by
      have := (List.getElem?_eq_some_iff.mp e).1
      rw [rangeD_len] at this
      omega
    rw [rangeD_get (by omega)] at e
    cases e
    refine ⟨_, tg_name, ?_⟩
    have hpow : 5 ^ i ≤ 125 := Nat.le_trans (Nat.pow_le_pow_right (by decide) (show i ≤ 3 by omega)) (by decide)
    have hlo : (0 : Int) ≤ (if i = 0 then 1 else 0) := by split <;> decide
    refine go_asg (d := .list ((rows.flatMap fun r => (intsTo (if i = 0 then 1 else 0) p).map fun c => r ++ [c]).map rowD)) ((EvN.toD (en_lc2 (moreF (if i = 0 then 1 else 0) p) (it_list (ed_var rfl)) ?_ ?_)).is (by rw [moreF_rows])) ?_
    · rw [moreF_rows, List.length_map]
      have := more_len hp2 hlo rows
      omega
    · intro j d' e'
      obtain ⟨row, h1, rfl, _⟩ := rows_get e'
      refine ⟨_, tw_name (by decide), ts_nil, rangeD (if i = 0 then 1 else 0) (p - (if i = 0 then 1 else 0)).toNat, it_range2 (ea_cons ((ed_cb1 (ed_op (ed_var rfl) ed_int rd_eqI) rc_intB).is ?_) (ea_cons (ed_var rfl) ea_nil)) (by omega) (by omega) (by split <;> omega) (by split <;> omega), ?_, ?_⟩
      · congr 1
        by_cases hz : i = 0
        · subst hz; rfl
        · rw [if_neg hz, if_neg (by rw [decide_eq_true_iff]; omega)]
      · show _ = (List.map _ (intsTo _ p)).length
        unfold intsTo
        rw [rangeD_len, List.length_map, List.length_map, List.length_range]
      · intro u e2 he2
        have hu : u < (p - (if i = 0 then 1 else 0)).toNat := by
          have := (List.getElem?_eq_some_iff.mp he2).1
          rw [rangeD_len] at this
          exact this
        rw [rangeD_get hu] at he2
        cases he2
        have hrl := hl2 row (List.mem_of_getElem? h1)
        refine ⟨.tuple (row.map PyData.int ++ [.int ((if i = 0 then 1 else 0) + (u : Int))]), ?_, _, tw_name (by decide), ts_nil, ed_op (ed_var rfl) (ed_tup (ea_cons (ed_var rfl) ea_nil) (by simp)) (rd_catA (by rw [List.length_map]; show row.length + 1 ≤ 100000; omega))⟩
        show (List.map _ (intsTo _ p))[u]? = _
        unfold intsTo
        rw [List.map_map, List.getElem?_map, List.getElem?_eq_getElem (by rw [List.length_range]; exact hu), List.getElem_range]
        rfl
    · refine go_nx ?_
      refine ⟨_, _, _, _, rfl, ?_, fun r hr => ?_, ?_⟩
      · have := more_len hp2 hlo rows
        rw [Nat.pow_succ]
        omega
      · obtain ⟨r', hr', hr⟩ := List.mem_flatMap.mp hr
        obtain ⟨c', _, rfl⟩ := List.mem_map.mp hr
        have := hl2 r' hr'
        rw [List.length_append]
        show r'.length + 1 ≤ i + 1
        omega
      · rw [← hf, show d - i = (d - (i + 1)) + 1 by omega]
        rfl
  · rintro Γn ⟨rows, x3, x4, x5, rfl, hl1, hl2, hf⟩
    have hdl : (rangeD 0 (d : Int).toNat).length = d := by rw [rangeD_len]; omega
    rw [hdl] at hl1 hl2 hf
    rw [Nat.sub_self] at hf
    have hpow : 5 ^ d ≤ 125 := Nat.le_trans (Nat.pow_le_pow_right (by decide) hd) (by decide)
    have e : rows = rodF p d 0 [[]] := hf
    refine go_ret ((EvN.toD (en_map (fun d => match d with | .tuple xs => .tuple (xs ++ [.int 1]) | d => d) (it_list (ed_var rfl)) (by rw [List.length_map]; omega) fun i d e => ?_)).is ?_) k
    · obtain ⟨row, h1, rfl, _⟩ := rows_get e
      have := hl2 row (List.mem_of_getElem? h1)
      exact ⟨_, tw_name (by decide), ts_nil, ed_op (ed_var rfl) (ed_tup (ea_cons ed_int ea_nil) (by simp)) (rd_catA (by rw [List.length_map]; show row.length + 1 ≤ 100000; omega))⟩
    · unfold rodM
      rw [← e, List.map_map, List.map_map]
      congr 2
      funext r
      show PyData.tuple (r.map PyData.int ++ [.int 1]) = PyData.tuple ((r ++ [1]).map PyData.int)
      rw [List.map_append]
      rfl
end
end Evr
set_option Elab.async false
set_option linter.all false
set_option maxRecDepth 100000
set_option maxHeartbeats 4000000
namespace Evr
open PySem PySem.Spec PyProof.Rows L2
abbrev facD (l : List (Row × Int)) : List PyData := l.map fun x => .tuple [rowD x.1, .int x.2]
section
variable {P : Program} {w : World} {K : PySem.W.Frag} {mg : Str → Option Value} {base : Heap} {f : Addr} {fd : FuncData}
def R_with_last : List PyData → PyData → Prop := fun ds r => ∃ (found res : List (Row × Int)) (rest : Row), ds = [.list (facD found), rowD rest] ∧ withLast found rest = some res ∧ r = .list (facD res)
/-! factors_of -/
def R_factors_of : List PyData → PyData → Prop := fun ds r => ∃ (p : Int) (poly : Row) (res : List (Row × Int)), ds = [.int p, rowD poly] ∧ 0 < p ∧ p ≤ 5 ∧ factorsM p poly = some res ∧ r = .list (facD res)
abbrev N_factors : List Str := ["prime", "polynomial", "found", "rest", "degree", "row", "many", "quotient", "remainder"]
theorem sc_factors_of : FnScope N_factors ["prime", "polynomial"] (C8.fnScope s_factors_of) := C8.fnScope_by (by decide +kernel)
theorem ok_factors_of (T : Txt K mg) (F : C8.Def K mg "factors_of" s_factors_of f fd) (b : Binds K fd ["prime", "polynomial"] []) (c_divided : C8.Cal P w K mg base 2 "divided" (PureF K R_divided) []) (c_rows : C8.Cal P w K mg base 1 "rows_of_degree" (PureF K R_rows_of_degree) []) (c_with_last : C8.Cal P w K mg base 1 "with_last" (PureF K R_with_last) []) :
    C8.Cal P w K mg base 3 "factors_of" (PureF K R_factors_of) [] := by
  refine cal_pure F b sc_factors_of (fun ds r h => ?_) (fun cdv A outer s H E hr ds r h => ?_)
  · obtain ⟨_, _, _, rfl, _⟩ := h; rfl
  obtain ⟨p, poly, res, rfl, hp, hp2, hm, rfl⟩ := h
  refine ⟨_, pss_cons (ps_set (i := 2) sc_factors_of.nd rfl (.inl rfl) (pe_lst pa_nil)) (pss_cons (ps_set (i := 3) sc_factors_of.nd rfl (.inl rfl) (pv 1)) (pss_cons (ps_set (i := 4) sc_factors_of.nd rfl (.inl rfl) pe_int)
    (pss_cons (ps_while PassesOwn.never (pt_cmpR op_lt (pe_op op_mul pe_int (pv 4)) (pe_callB call_len_seq (by rfl) T.len_ PySem.boot_len (pa_cons (pv 3) pa_nil)) (nomark _))
      (pss_cons (ps_for PassesOwn.never rfl (pi_list (C8.pe_c c_rows hr (by decide) (by rfl) (pa_cons (pv 0) (pa_cons (pv 4) pa_nil)))) (pg_name (i := 5) sc_factors_of.nd rfl (.inl rfl))
        (pss_cons (ps_set (i := 6) sc_factors_of.nd rfl (.inl rfl) pe_int)
        (pss_cons (ps_asg (C8.pe_c c_divided hr (by decide) (by rfl) (pa_cons (pv 0) (pa_cons (pv 3) (pa_cons (pv 5) pa_nil)))) (pg_tup rfl (pgs_cons (pg_name (i := 7) sc_factors_of.nd rfl (.inl rfl)) (pgs_cons (pg_name (i := 8) sc_factors_of.nd rfl (.inl rfl)) pgs_nil))))
        (pss_cons (ps_while PassesOwn.never (pt_cmpR (op_eqD hr.units) (pv 8) (pe_tup pa_nil) (nomark _))
          (pss_cons (ps_set (i := 6) sc_factors_of.nd rfl (.inl rfl) (pe_op op_add (pv 6) pe_int))
          (pss_cons (ps_set (i := 3) sc_factors_of.nd rfl (.inl rfl) (pv 7))
          (pss_one (ps_asg (C8.pe_c c_divided hr (by decide) (by rfl) (pa_cons (pv 0) (pa_cons (pv 3) (pa_cons (pv 5) pa_nil)))) (pg_tup rfl (pgs_cons (pg_name (i := 7) sc_factors_of.nd rfl (.inl rfl)) (pgs_cons (pg_name (i := 8) sc_factors_of.nd rfl (.inl rfl)) pgs_nil))))))))
        (pss_one (ps_if (pt_cmpR op_gt (pv 6) pe_int (nomark _)) (pss_one (ps_expr (pe_bm PySem.F.plainAttrs_list PySem.F.slot_list_append PySem.F.type_list_append mt_append (pv 2) (pa_cons (pe_tup (pa_cons (pv 5) (pa_cons (pv 6) pa_nil))) pa_nil)))) pss_nil))))))
      (pss_one (ps_set (i := 4) sc_factors_of.nd rfl (.inl rfl) (pe_op op_add (pv 4) pe_int)))))
    (pss_one (ps_ret (C8.pe_c c_with_last hr (by decide) (by rfl) (pa_cons (pv 2) (pa_cons (pv 3) pa_nil)))))))), fun c D k => ?_⟩
  refine go_seq (go_asgN (es := facD []) (en_lst ea_nil (by decide)) ?_)
  refine go_seq (go_asg (d := rowD poly) (ed_var rfl) ?_)
  dsimp only
  refine go_seq (go_asg (d := .int ((1 : Nat) : Int)) ed_int ?_)
  refine go_seq (go_while (Inv := fun m Γ => ∃ (found : List (Row × Int)) (rest : Row) (deg : Nat) (x5 x6 x7 x8 : Sl), Γ = [.d (.int p), .d (rowD poly), .own (facD found), .d (rowD rest), .d (.int (deg : Int)), x5, x6, x7, x8] ∧ facW p m deg rest found = some res) 10 ⟨[], poly, 1, _, _, _, _, rfl, hm⟩ ?_)
  rintro m Γ ⟨found, rest, deg, x5, x6, x7, x8, rfl, hf⟩
  refine ⟨decide ((2 : Int) * (deg : Int) < (rest.length : Int)), et_test (ed_ib (ed_i ed_int (ed_var rfl) (.inl ⟨by decide, by decide⟩)) ((ed_cb1 (ed_var rfl) rc_lenT).is (by rw [List.length_map]))), fun q => ?_, fun q => ?_⟩
  · have q' : 2 * deg < rest.length := by
      have := of_decide_eq_true q
      omega
    cases m with
    | zero =>
      unfold facW at hf
      rw [if_pos q'] at hf
      cases hf
    | succ m =>
      replace hf : (if 3 < deg then none else (facRows p (rodM p deg) rest found).bind fun rf => facW p m (deg + 1) rf.1 rf.2) = some res := by
        unfold facW at hf
        rw [if_pos q'] at hf
        exact hf
      split at hf
      case isTrue => cases hf
      case isFalse hdeg =>
      obtain ⟨⟨rest', found'⟩, h1, hf⟩ := Option.bind_eq_some_iff.mp hf
      refine go_seq (go_for (ds := (rodM p deg).map rowD) (Inv := fun i Γ => ∃ (fo : List (Row × Int)) (re : Row) (x5 x6 x7 x8 : Sl), Γ = [.d (.int p), .d (rowD poly), .own (facD fo), .d (rowD re), .d (.int (deg : Int)), x5, x6, x7, x8] ∧ facRows p ((rodM p deg).drop i) re fo = some (rest', found'))
        (it_list (ed_call (ea_cons (ed_var rfl) (ea_cons (ed_var rfl) ea_nil)) ⟨p, deg, rfl, hp, hp2, by omega, rfl⟩)) ⟨found, rest, _, _, _, _, rfl, h1⟩ ?_ ?_)
      · rintro b0 hb0 i d Γi e ⟨fo, re, x5, x6, x7, x8, rfl, h2⟩
        obtain ⟨row, _, rfl, h3⟩ := rows_get e
        rw [h3] at h2
        unfold facRows at h2
        split at h2
        case isTrue => cases h2
        case isFalse hc =>
        obtain ⟨⟨qu, rm⟩, h4, h2⟩ := Option.bind_eq_some_iff.mp h2
        obtain ⟨⟨re', many'⟩, h5, h2⟩ := Option.bind_eq_some_iff.mp h2
        refine ⟨_, tg_name, ?_⟩
        refine go_seq (go_asg (d := .int 0) ed_int ?_)
        dsimp only
        refine go_seq (go_asgT (ed_call (ea_cons (ed_var rfl) (ea_cons (ed_var rfl) (ea_cons (ed_var rfl) ea_nil))) ⟨p, re, row, qu, rm, rfl, hp, by omega, by omega, by omega, h4, rfl⟩) (tg_tup (tgs_cons tg_name (tgs_cons tg_name tgs_nil)) rfl) ?_)
        refine go_seq (go_while (Inv := fun u Γ => ∃ (re qu rm : Row) (many : Int), Γ = [.d (.int p), .d (rowD poly), .own (facD fo), .d (rowD re), .d (.int (deg : Int)), .d (rowD row), .d (.int many), .d (rowD qu), .d (rowD rm)] ∧ facRow p row u re many qu rm = some (re', many')) 20 ⟨re, qu, rm, 0, rfl, h5⟩ ?_)
        rintro u Γ ⟨re, qu, rm, many, rfl, h6⟩
        refine ⟨decide (rm = []), et_test (ed_op (ed_var rfl) (ed_tup ea_nil (by decide)) (rd_eqRow (a := rm) (b := []))), fun q1 => ?_, fun q1 => ?_⟩
        · have e1 : rm = [] := of_decide_eq_true q1
          subst e1
          cases u with
          | zero => cases h6
          | succ u =>
            replace h6 : (if qu.length ≤ 400 ∧ row.length ≤ 400 then (divM p qu row).bind fun qr => facRow p row u qu (many + 1) qr.1 qr.2 else none) = some (re', many') := by
              unfold facRow at h6
              exact h6
            split at h6
            case isFalse => cases h6
            case isTrue hc2 =>
            obtain ⟨⟨q2, r2⟩, h7, h6⟩ := Option.bind_eq_some_iff.mp h6
            refine go_seq (go_asg (ed_i0 (ed_var rfl) ed_int) ?_)
            refine go_seq (go_asg (d := rowD qu) (ed_var rfl) ?_)
            refine go_asgT (ed_call (ea_cons (ed_var rfl) (ea_cons (ed_var rfl) (ea_cons (ed_var rfl) ea_nil))) ⟨p, qu, row, q2, r2, rfl, hp, by omega, by omega, by omega, h7, rfl⟩) (tg_tup (tgs_cons tg_name (tgs_cons tg_name tgs_nil)) rfl) ?_
            exact go_nxW (Nat.lt_succ_self u) ⟨qu, q2, r2, many + 1, rfl, h6⟩
        · have e1 : rm ≠ [] := of_decide_eq_false q1
          have e2 : re = re' ∧ many = many' := by
            cases rm with
            | nil => exact absurd rfl e1
            | cons y ys =>
              have : some (re, many) = some (re', many') := by
                cases u <;>
                · unfold facRow at h6
                  exact h6
              cases this
              exact ⟨rfl, rfl⟩
          obtain ⟨rfl, rfl⟩ := e2
          refine go_if (b := decide (0 < many)) (et_test (ed_ib (g := fun i j => decide (j < i)) (i := many) (j := 0) (ed_var rfl) ed_int)) (fun q2 => ?_) (fun q2 => ?_)
          · have q3 := of_decide_eq_true q2
            refine go_app (xs := facD fo) (d := .tuple [rowD row, .int many]) rfl (ed_tup (ea_cons (ed_var rfl) (ea_cons (ed_var rfl) ea_nil)) (by simp)) (by rw [List.length_map]; omega) ?_
            refine go_nx ?_
            refine ⟨fo ++ [(row, many)], re, .d (rowD row), .d (.int many), .d (rowD qu), .d (rowD rm), ?_, ?_⟩
            · show _ = [_, _, Sl.own (facD (fo ++ [(row, many)])), _, _, _, _, _, _]
              rw [show facD (fo ++ [(row, many)]) = facD fo ++ [.tuple [rowD row, .int many]] from List.map_append]
              rfl
            · rw [if_pos q3] at h2
              exact h2
          · have q3 : ¬ 0 < many := of_decide_eq_false q2
            refine go_next ?_
            refine go_nx ?_
            refine ⟨fo, re, _, _, _, _, rfl, ?_⟩
            rw [if_neg q3] at h2
            exact h2
      · rintro Γn ⟨fo, re, x5, x6, x7, x8, rfl, h2⟩
        rw [List.length_map, List.drop_length] at h2
        cases h2
        exact go_asg (d := .int ((deg + 1 : Nat) : Int)) ((ed_i0 (ed_var rfl) ed_int).is (by rw [Int.natCast_add]; rfl)) (go_nxW (Nat.lt_succ_self m) ⟨_, _, deg + 1, _, _, _, _, rfl, hf⟩)
  · have q' : ¬ 2 * deg < rest.length := by
      have := of_decide_eq_false q
      omega
    have hf' : withLast found rest = some res := by
      cases m <;>
      · unfold facW at hf
        rw [if_neg q'] at hf
        exact hf
    exact go_freeze (i := 2) rfl (go_ret (ed_call (ea_cons (ed_var rfl) (ea_cons (ed_var rfl) ea_nil)) ⟨found, res, rest, rfl, hf', rfl⟩) k)
end
end Evr
set_option Elab.async false
set_option linter.all false
set_option maxRecDepth 100000
set_option maxHeartbeats 4000000
namespace Evr
open PySem PySem.Spec PyProof.Rows L2
theorem fac_get {l : List (Row × Int)} {i : Nat} {d : PyData} (h : (facD l)[i]? = some d) : ∃ x, l[i]? = some x ∧ d = .tuple [rowD x.1, .int x.2] ∧ x ∈ l := by
  rw [List.getElem?_map] at h
  cases q : l[i]? with
  | none => rw [q] at h; cases h
  | some x =>
    rw [q] at h
    cases h
    exact ⟨x, rfl, rfl, List.mem_of_getElem? q⟩
section
variable {P : Program} {w : World} {K : PySem.W.Frag} {mg : Str → Option Value} {base : Heap} {f : Addr} {fd : FuncData}
abbrev N_with_last : List Str := ["found", "rest", "longest", "others", "ranked", "row", "many", "pair"]
theorem sc_with_last : FnScope N_with_last ["found", "rest"] (C8.fnScope s_with_last) := C8.fnScope_by (by decide +kernel)
theorem ok_with_last (T : Txt K mg) (F : C8.Def K mg "with_last" s_with_last f fd) (b : Binds K fd ["found", "rest"] []) : C8.Cal P w K mg base 1 "with_last" (PureF K R_with_last) [] := by
  refine cal_pure F b sc_with_last (fun ds r h => ?_) (fun cdv A outer s H E hr ds r h => ?_)
  · obtain ⟨_, _, _, rfl, _⟩ := h; rfl
  obtain ⟨found, res, rest, rfl, hm, rfl⟩ := h
  refine ⟨_, pss_cons (ps_if (pt_cmpR (op_eqD hr.units) (pv 1) (pe_tup (pa_cons pe_int pa_nil)) (nomark _)) (pss_one (ps_ret (pv 0))) pss_nil)
    (pss_cons (ps_setLc (i := 2) (own := [("row", 5), ("many", 6)]) (g := gTup K 2 (gCons (gName 5) (gCons (gName 6) gNil))) (by rfl) sc_with_last.nd rfl rfl (sw_true rfl rfl rfl (by decide +kernel)) (pi_list (pv 0)) (blkOk_by (N := N_with_last) (sc := C8.fnScope s_with_last) (by decide +kernel))
      (fun _ _ _ _ _ => pg_tup rfl (pgs_cons (pg_name (i := 5) sc_with_last.nd rfl (.inl rfl)) (pgs_cons (pg_name (i := 6) sc_with_last.nd rfl (.inl rfl)) pgs_nil)))
      (fun _ _ _ _ _ => pts_one (pt_cmpR op_eq (pe_callB (r := rLenQ K) call_len_seq (by rfl) T.len_ PySem.boot_len (pa_cons (pv 5) pa_nil)) (pe_callB (r := rLenQ K) call_len_seq (by rfl) T.len_ PySem.boot_len (pa_cons (pv 1) pa_nil)) (nomark _)))
      (fun _ _ _ _ _ => pe_tup (pa_cons (pv 5) (pa_cons (pv 6) pa_nil))))
    (pss_cons (ps_setLc (i := 3) (own := [("row", 5), ("many", 6)]) (g := gTup K 2 (gCons (gName 5) (gCons (gName 6) gNil))) (by rfl) sc_with_last.nd rfl rfl (sw_true rfl rfl rfl (by decide +kernel)) (pi_list (pv 0)) (blkOk_by (N := N_with_last) (sc := C8.fnScope s_with_last) (by decide +kernel))
      (fun _ _ _ _ _ => pg_tup rfl (pgs_cons (pg_name (i := 5) sc_with_last.nd rfl (.inl rfl)) (pgs_cons (pg_name (i := 6) sc_with_last.nd rfl (.inl rfl)) pgs_nil)))
      (fun _ _ _ _ _ => pts_one (pt_cmpR op_ne (pe_callB (r := rLenQ K) call_len_seq (by rfl) T.len_ PySem.boot_len (pa_cons (pv 5) pa_nil)) (pe_callB (r := rLenQ K) call_len_seq (by rfl) T.len_ PySem.boot_len (pa_cons (pv 1) pa_nil)) (nomark _)))
      (fun _ _ _ _ _ => pe_tup (pa_cons (pv 5) (pa_cons (pv 6) pa_nil))))
    (pss_cons (ps_set (i := 4) sc_with_last.nd rfl (.inl rfl) (pe_callB (cr_sortOne (by rfl)) (by rfl) T.sorted_ (by decide +kernel) (pa_cons (pe_callTy (cr_setOne (by rfl) hr.units) (by rfl) T.set_ (by decide +kernel) (pa_cons
      (pe_lc (own := [("pair", 7)]) (g := gName 7) (by rfl) sc_with_last.nd (pi_list (pe_op op_cat (pv 2) (pe_lst (pa_cons (pe_tup (pa_cons (pv 1) (pa_cons pe_int pa_nil))) pa_nil)))) (blkOk_by (N := N_with_last) (sc := C8.fnScope s_with_last) (by decide +kernel))
        (fun _ _ _ _ _ => pg_name (i := 7) sc_with_last.nd rfl (.inl rfl)) (fun _ _ _ _ _ => pts_nil) (fun _ _ _ _ _ => pv 7)) pa_nil)) pa_nil)))
    (pss_one (ps_ret (pe_op op_cat (pv 3) (pv 4))))))), fun c D k => ?_⟩
  unfold withLast at hm
  split at hm
  case isTrue => cases hm
  case isFalse hl =>
  have hl1 : found.length ≤ 400 := by omega
  refine go_seq (go_if (b := decide (rest = [1])) (et_test (ed_op (ed_var rfl) (ed_tup (ea_cons ed_int ea_nil) (by simp)) (rd_eqRow (a := rest) (b := [1])))) (fun q => ?_) (fun q => go_next ?_))
  · rw [if_pos (of_decide_eq_true q)] at hm
    cases hm
    exact go_ret (ed_var rfl) k
  rw [if_neg (of_decide_eq_false q)] at hm
  split at hm
  case isTrue => cases hm
  case isFalse hany =>
  cases hm
  have hne : ∀ x ∈ found, ¬ x.1.length = rest.length := fun x hx z => hany (List.any_eq_true.mpr ⟨x, hx, decide_eq_true z⟩)
  refine go_seq (go_asgN (es := []) (EvN.is (en_lc (fun _ => none) (it_list (ed_var rfl)) (by rw [List.length_map]; omega) fun i d e => ?_) ?_) ?_)
  · obtain ⟨x, h1, rfl, hx⟩ := fac_get e
    refine ⟨_, tw_tup (tws_cons (tw_name (by decide)) (tws_cons (tw_name (by decide)) tws_nil)) rfl, false, (et_test (ed_op (ed_cb1 (ed_var rfl) rc_lenT) (ed_cb1 (ed_var rfl) rc_lenT) rd_eqI)).is ?_, fun q => (by cases q), fun _ => rfl⟩
    refine decide_eq_false fun z => hne x hx ?_
    rw [List.length_map, List.length_map] at z
    omega
  · induction (facD found) with
    | nil => rfl
    | cons y ys ih => rw [List.filterMap_cons]; exact ih
  refine go_seq (go_asgN (es := facD found) (EvN.is (en_map (fun d => d) (it_list (ed_var rfl)) (by rw [List.length_map]; omega) fun i d e => ?_) ?_) ?_)
  · obtain ⟨x, h1, rfl, hx⟩ := fac_get e
    refine ⟨_, tw_tup (tws_cons (tw_name (by decide)) (tws_cons (tw_name (by decide)) tws_nil)) rfl, (et_test (ed_op (ed_cb1 (ed_var rfl) rc_lenT) (ed_cb1 (ed_var rfl) rc_lenT) rd_neI)).is ?_, ed_tup (ea_cons (ed_var rfl) (ea_cons (ed_var rfl) ea_nil)) (by simp)⟩
    rw [decide_eq_false fun z => hne x hx ?_]
    · rfl
    · rw [List.length_map, List.length_map] at z
      omega
  · rw [List.map_id']
  refine go_seq (go_asgN (es := [.tuple [rowD rest, .int 1]]) (en_sortOne (EvN.toD (EvN.is (en_map (fun d => d) (it_list (EvN.toD (en_cat (ls_own rfl) (ls_new (en_lst (ea_cons (ed_tup (ea_cons (ed_var rfl) (ea_cons ed_int ea_nil)) (by simp)) ea_nil) (by simp))) (by simp)))) (by simp) fun i d e => ⟨_, tw_name (by decide), ts_nil, ed_var rfl⟩) (by rfl)))) ?_)
  dsimp only
  refine go_ret (EvN.toD ((en_cat (ls_own rfl) (ls_own rfl) ?_).is ?_)) k
  · rw [List.length_map]; show found.length + 1 ≤ 100000; omega
  · show facD found ++ [.tuple [rowD rest, .int 1]] = facD (found ++ [(rest, 1)])
    rw [show facD (found ++ [(rest, 1)]) = facD found ++ [.tuple [rowD rest, .int 1]] from List.map_append]
end
end Evr
set_option Elab.async false
set_option linter.all false
set_option maxRecDepth 100000
set_option maxHeartbeats 4000000
namespace Evr
open PySem PySem.Spec PyProof.Rows L2
abbrev partsD (l : List Part) : List PyData := l.map fun x => .tuple [rowD x.1, .int x.2.1, .int x.2.2]
theorem pan_le {p : Int} {bs : List Rule} (h : panB p bs = true) : p ≤ 5 := by
  obtain ⟨hp, _⟩ := panB_iff h
  simp only [List.any_cons, List.any_nil, Bool.or_false, Bool.or_eq_true, decide_eq_true_eq] at hp
  omega
theorem partsF_get {p : Int} : ∀ {l : List (Row × Int)} {ps : List Part}, partsF p l = some ps → ps.length = l.length ∧ ∀ {i : Nat} {x : Row × Int}, l[i]? = some x → ∃ o, orderM p x.1 = some o ∧ ps[i]? = some (x.1, x.2, o)
  | [], ps, h => by
    cases h
    exact ⟨rfl, fun {i x} e => by simp at e⟩
  | (f, t) :: l, ps, h => by
    obtain ⟨o, h1, h⟩ := Option.bind_eq_some_iff.mp (show (orderM p f).bind (fun o => (partsF p l).bind fun ps => some ((f, t, o) :: ps)) = some ps from h)
    obtain ⟨qs, h2, h⟩ := Option.bind_eq_some_iff.mp h
    cases h
    obtain ⟨g1, g2⟩ := partsF_get h2
    refine ⟨by rw [List.length_cons, List.length_cons, g1], fun {i x} e => ?_⟩
    cases i with
    | zero =>
      cases e
      exact ⟨o, h1, rfl⟩
    | succ i => exact g2 (by simpa using e)
theorem part_get {l : List Part} {i : Nat} {d : PyData} (h : (partsD l)[i]? = some d) : ∃ x, l[i]? = some x ∧ d = .tuple [rowD x.1, .int x.2.1, .int x.2.2] ∧ l.drop i = x :: l.drop (i + 1) := by
  rw [List.getElem?_map] at h
  cases q : l[i]? with
  | none => rw [q] at h; cases h
  | some x =>
    rw [q] at h
    cases h
    obtain ⟨h1, h2⟩ := List.getElem?_eq_some_iff.mp q
    exact ⟨x, rfl, rfl, by rw [List.drop_eq_getElem_cons h1, h2]⟩
section
variable {P : Program} {w : World} {K : PySem.W.Frag} {mg : Str → Option Value} {base : Heap} {f : Addr} {fd : FuncData}
def R_parts_of : List PyData → PyData → Prop := fun ds r => ∃ p bs g ps, ds = [panelD p bs] ∧ panB p bs = true ∧ genM p bs = some g ∧ partsM p g = some ps ∧ r = .list (partsD ps)
abbrev N_parts : List Str := ["panel", "prime", "found", "factor", "times"]
theorem sc_parts_of : FnScope N_parts ["panel"] (C8.fnScope s_parts_of) := C8.fnScope_by (by decide +kernel)
theorem factors_len {p : Int} {g : Row} {fs : List (Row × Int)} : factorsM p g = some fs → fs.length ≤ 401 := by
  have wl : ∀ {found fs : List (Row × Int)} {rest : Row}, withLast found rest = some fs → fs.length ≤ 401 := by
    intro found fs rest h
    unfold withLast at h
    split at h
    case isTrue => cases h
    case isFalse hl =>
    split at h
    · cases h; omega
    · split at h
      · cases h
      · cases h
        rw [List.length_append]
        show found.length + 1 ≤ 401
        omega
  have : ∀ (n deg : Nat) (rest : Row) (found : List (Row × Int)), facW p n deg rest found = some fs → fs.length ≤ 401 := by
    intro n
    induction n with
    | zero =>
      intro deg rest found h
      unfold facW at h
      split at h
      · cases h
      · exact wl h
    | succ n ih =>
      intro deg rest found h
      by_cases c : 2 * deg < rest.length
      · replace h : (if 3 < deg then none else (facRows p (rodM p deg) rest found).bind fun rf => facW p n (deg + 1) rf.1 rf.2) = some fs := by
          unfold facW at h
          rw [if_pos c] at h
          exact h
        by_cases c2 : 3 < deg
        · rw [if_pos c2] at h
          cases h
        · rw [if_neg c2] at h
          obtain ⟨rf, _, h⟩ := Option.bind_eq_some_iff.mp h
          exact ih _ _ _ h
      · unfold facW at h
        rw [if_neg c] at h
        exact wl h
  exact this 10 1 g []
theorem ok_parts_of (F : C8.Def K mg "parts_of" s_parts_of f fd) (b : Binds K fd ["panel"] []) (c_generator_of : C8.Cal P w K mg base 6 "generator_of" (PureF K R_generator_of) []) (c_factors_of : C8.Cal P w K mg base 3 "factors_of" (PureF K R_factors_of) []) (c_order : C8.Cal P w K mg base 4 "order_of_factor" (PureF K R_order_of_factor) []) :
    C8.Cal P w K mg base 7 "parts_of" (PureF K R_parts_of) [] := by
  refine cal_pure F b sc_parts_of (fun ds r h => ?_) (fun cdv A outer s H E hr ds r h => ?_)
  · obtain ⟨_, _, _, _, rfl, _⟩ := h; rfl
  obtain ⟨p, bs, g, ps, rfl, h1, h2, h3, rfl⟩ := h
  obtain ⟨_, hp, hp2, _, hl1, _⟩ := panB_iff h1
  have hp5 := pan_le h1
  unfold partsM at h3
  obtain ⟨fs, h4, h5⟩ := Option.bind_eq_some_iff.mp h3
  obtain ⟨g1, g2⟩ := partsF_get h5
  refine ⟨_, pss_cons (ps_set (i := 1) sc_parts_of.nd rfl (by first | exact .inl rfl | exact .inr rfl) (pe_ix ix_tup (pv 0) pe_int (fun _ _ => rfl)))
    (pss_cons (ps_set (i := 2) sc_parts_of.nd rfl (by first | exact .inl rfl | exact .inr rfl) (C8.pe_c c_factors_of hr (by decide) (by rfl) (pa_cons (pv 1) (pa_cons (C8.pe_c c_generator_of hr (by decide) (by rfl) (pa_cons (pv 0) pa_nil)) pa_nil))))
    (pss_one (ps_ret (pe_lc (own := [("factor", 3), ("times", 4)]) (g := gTup K 2 (gCons (gName 3) (gCons (gName 4) gNil))) (by rfl) sc_parts_of.nd (pi_list (pv 2)) (blkOk_by (N := N_parts) (sc := C8.fnScope s_parts_of) (by decide +kernel))
      (fun _ _ _ _ _ => pg_tup rfl (pgs_cons (pg_name (i := 3) sc_parts_of.nd rfl (.inl rfl)) (pgs_cons (pg_name (i := 4) sc_parts_of.nd rfl (.inl rfl)) pgs_nil))) (fun _ _ _ _ _ => pts_nil)
      (fun _ _ _ _ _ => pe_tup (pa_cons (pv 3) (pa_cons (pv 4) (pa_cons (C8.pe_c c_order hr (by decide) (by rfl) (pa_cons (pv 1) (pa_cons (pv 3) pa_nil))) pa_nil)))))))), fun c D k => ?_⟩
  refine go_seq (go_asg (d := .int p) (ed_op (ed_var rfl) ed_int (rd_ixT (d := .int p) rfl)) ?_)
  refine go_seq (go_asg (d := .list (facD fs)) (ed_call (ea_cons (ed_var rfl) (ea_cons (ed_call (ea_cons (ed_var rfl) ea_nil) ⟨p, bs, g, rfl, hp, hp2, hl1, h2, rfl⟩) ea_nil)) ⟨p, g, fs, rfl, hp, hp5, h4, rfl⟩) ?_)
  refine go_ret (EvN.toD (en_each (es := partsD ps) (it_list (ed_var rfl)) (by have := factors_len h4; rw [List.length_map]; omega) (by rw [List.length_map, List.length_map, g1]) fun i d e => ?_)) k
  obtain ⟨x, e1, rfl, hx⟩ := fac_get e
  obtain ⟨o, e2, e3⟩ := g2 e1
  refine ⟨.tuple [rowD x.1, .int x.2, .int o], by rw [List.getElem?_map, e3]; rfl, _, tw_tup (tws_cons (tw_name (by decide)) (tws_cons (tw_name (by decide)) tws_nil)) rfl, ts_nil, ed_tup (ea_cons (ed_var rfl) (ea_cons (ed_var rfl) (ea_cons (ed_call (ea_cons (ed_var rfl) (ea_cons (ed_var rfl) ea_nil)) ⟨p, x.1, o, rfl, hp, hp2, e2, rfl⟩) ea_nil))) (by simp)⟩
/-! marks_of -/
def R_marks : List PyData → PyData → Prop := fun ds r => ∃ p bs g m, ds = [panelD p bs] ∧ panB p bs = true ∧ genM p bs = some g ∧ marksM p g = some m ∧ r = .list (m.map pairD)
abbrev N_marks : List Str := ["panel", "weights", "factor", "times", "order_here", "power", "before", "now", "size"]
theorem sc_marks_of : FnScope N_marks ["panel"] (C8.fnScope s_marks_of) := C8.fnScope_by (by decide +kernel)
theorem ok_marks_of (T : Txt K mg) (F : C8.Def K mg "marks_of" s_marks_of f fd) (b : Binds K fd ["panel"] []) (c_parts_of : C8.Cal P w K mg base 7 "parts_of" (PureF K R_parts_of) []) : C8.Cal P w K mg base 8 "marks_of" (PureF K R_marks) [] := by
  refine cal_pure F b sc_marks_of (fun ds r h => ?_) (fun cdv A outer s H E hr ds r h => ?_)
  · obtain ⟨_, _, _, _, rfl, _⟩ := h; rfl
  obtain ⟨p, bs, g, m, rfl, h1, h2, h3, rfl⟩ := h
  obtain ⟨_, hp, hp2, _, hl1, _⟩ := panB_iff h1
  unfold marksM at h3
  obtain ⟨ps, h4, h3⟩ := Option.bind_eq_some_iff.mp h3
  obtain ⟨wl, h5, h3⟩ := Option.bind_eq_some_iff.mp h3
  split at h3
  case isFalse => cases h3
  case isTrue hok =>
  cases h3
  have hu : (A.deeper (envOfC "marks_of" (C8.fnScope s_marks_of) s.heap.objs.size f cdv)).units + 1 < cLine := by have := hr.units; omega
  refine ⟨_, pss_cons (ps_set (i := 1) sc_marks_of.nd rfl (.inl rfl) pe_dnewK)
    (pss_cons (ps_for PassesOwn.never rfl (pi_list (C8.pe_c c_parts_of hr (by decide) (by rfl) (pa_cons (pv 0) pa_nil))) (pg_tup rfl (pgs_cons (pg_name (i := 2) sc_marks_of.nd rfl (.inl rfl)) (pgs_cons (pg_name (i := 3) sc_marks_of.nd rfl (.inl rfl)) (pgs_cons (pg_name (i := 4) sc_marks_of.nd rfl (.inl rfl)) pgs_nil))))
      (pss_cons (ps_asg (pe_tup (pa_cons pe_int (pa_cons pe_int pa_nil))) (pg_tup rfl (pgs_cons (pg_name (i := 5) sc_marks_of.nd rfl (.inl rfl)) (pgs_cons (pg_name (i := 6) sc_marks_of.nd rfl (.inl rfl)) pgs_nil))))
      (pss_one (ps_while PassesOwn.never (pt_cmpR op_lt (pv 6) (pv 3) (nomark _))
        (pss_cons (ps_set (i := 7) sc_marks_of.nd rfl (.inl rfl) (pe_callB (call_min2 (by rfl)) (by rfl) T.min_ (by decide +kernel) (pa_cons (pv 3) (pa_cons (pv 5) pa_nil))))
        (pss_cons (ps_set (i := 8) sc_marks_of.nd rfl (.inl rfl) (pe_op op_mul (pv 4) (pv 5)))
        (pss_cons (ps_asg (pe_op op_add (pe_dget2 hu (pv 1) (pv 8) pe_int ⟨by rfl, by rfl, by rfl, by rfl⟩) (pe_op op_mul (pe_op op_sub (pe_callB call_len_seq (by rfl) T.len_ PySem.boot_len (pa_cons (pv 2) pa_nil)) pe_int) (pe_op op_sub (pv 7) (pv 6)))) (pg_sub (pv 1) (pv 8) (set_dict hu)))
        (pss_one (ps_par (i := 5) (j := 6) (by rfl) sc_marks_of.nd rfl rfl (by decide) rfl rfl (pa_cons (pe_op op_mul (pv 5) (pe_ix ix_tup (pv 0) pe_int (fun _ _ => rfl))) (pa_cons (pv 7) pa_nil)) (by rfl))))))))))
    (pss_one (ps_ret (pe_sortIt (by rfl) (pv 1) (by rfl) T.sorted_ (by decide +kernel))))), fun c D k => ?_⟩
  refine go_seq (go_dnew ?_)
  refine go_seq (go_for (ds := partsD ps) (Inv := fun i Γ => ∃ wt, Γ = [.d (panelD p bs), .obj (dkI wt), .no, .no, .no, .no, .no, .no, .no] ∧ marksF p (ps.drop i) wt = some wl)
    (it_list (ed_call (ea_cons (ed_var rfl) ea_nil) ⟨p, bs, g, ps, rfl, h1, h2, h4, rfl⟩)) ⟨[], rfl, h5⟩ ?_ ?_)
  · rintro b0 hb0 i d Γi e ⟨wt, rfl, hf⟩
    obtain ⟨⟨fa, ti, oo⟩, e1, rfl, e2⟩ := part_get e
    rw [e2] at hf
    obtain ⟨wt', h6, h7⟩ := Option.bind_eq_some_iff.mp (show (mkW p (fa.length - 1) ti oo 20 1 0 wt).bind (fun w => marksF p (ps.drop (i + 1)) w) = some wl from hf)
    refine ⟨_, tg_tup (tgs_cons tg_name (tgs_cons tg_name (tgs_cons tg_name tgs_nil))) rfl, ?_⟩
    refine go_seq (go_asgT (ed_tup (ea_cons ed_int (ea_cons ed_int ea_nil)) (by simp)) (tg_tup (tgs_cons tg_name (tgs_cons tg_name tgs_nil)) rfl) ?_)
    refine go_while (Inv := fun u Γ => ∃ (wt : List (Int × Int)) (po be : Int), Γ = [.d (panelD p bs), .obj (dkI wt), .d (rowD fa), .d (.int ti), .d (.int oo), .d (.int po), .d (.int be), .no, .no] ∧ mkW p (fa.length - 1) ti oo u po be wt = some wt') 20 ⟨wt, 1, 0, rfl, h6⟩ ?_
    rintro u Γ ⟨wt, po, be, rfl, h8⟩
    refine ⟨decide (be < ti), et_test (ed_ib (ed_var rfl) (ed_var rfl)), fun q => ?_, fun q => ?_⟩
    · have q' := of_decide_eq_true q
      cases u with
      | zero =>
        unfold mkW at h8
        rw [if_pos q'] at h8
        cases h8
      | succ u =>
        replace h8 : (if (smallI oo && smallI po && smallI (fa.length - 1) && decide (wt.length < 64)) = true then mkW p (fa.length - 1) ti oo u (po * p) (if po < ti then po else ti) (putI wt (oo * po) (getI wt (oo * po) + (fa.length - 1) * ((if po < ti then po else ti) - be))) else none) = some wt' := by
          unfold mkW at h8
          rw [if_pos q'] at h8
          exact h8
        split at h8
        case isFalse => cases h8
        case isTrue hs =>
        rw [Bool.and_eq_true, Bool.and_eq_true, Bool.and_eq_true] at hs
        obtain ⟨⟨⟨s1, s2⟩, s3⟩, s4⟩ := hs
        refine go_seq (go_asg (ed_cb (ea_cons (ed_var rfl) (ea_cons (ed_var rfl) ea_nil)) rc_min2) ?_)
        refine go_seq (go_asg (ed_i (ed_var rfl) (ed_var rfl) (.inl (smallI_iff s1))) ?_)
        refine go_seq (go_dput (i := 1) (w := wt) (k := oo * po) (v := getI wt (oo * po) + (fa.length - 1) * ((if po < ti then po else ti) - be)) rfl ?_ (by have := of_decide_eq_true s4; omega) (ed_i0 (ed_dget rfl (ed_var rfl) ed_int) (ed_i (ed_i0 ((ed_cb1 (ed_var rfl) rc_lenT).is (by rw [List.length_map])) ed_int) (ed_i0 (ed_var rfl) (ed_var rfl)) (.inl (smallI_iff s3)))) (ed_var rfl) ?_)
        · intro j u e
          rcases j with _ | _ | _ | _ | _ | _ | _ | _ | _ | j <;> first | rfl | cases e
        refine go_par (ea_cons (ed_i (ed_var rfl) (ed_op (ed_var rfl) ed_int (rd_ixT (d := .int p) rfl)) (.inl (smallI_iff s2))) (ea_cons (ed_var rfl) ea_nil)) ?_
        refine go_forget 7 (go_forget 8 (go_nxW (Nat.lt_succ_self u) ?_))
        exact ⟨_, _, _, rfl, h8⟩
    · have q' := of_decide_eq_false q
      have e3 : wt = wt' := by
        cases u <;>
        · unfold mkW at h8
          rw [if_neg q'] at h8
          exact Option.some.inj h8
      subst e3
      refine go_forget 2 (go_forget 3 (go_forget 4 (go_forget 5 (go_forget 6 (go_nx ?_)))))
      exact ⟨wt, rfl, h7⟩
  · rintro Γn ⟨wt, rfl, hf⟩
    rw [List.length_map, List.drop_length] at hf
    cases hf
    exact go_ret (EvN.toD (en_sortIt (i := 1) rfl hok)) k
theorem sc_marks : FnScope ["panel"] ["panel"] (C8.fnScope s_marks) := C8.fnScope_by (by decide +kernel)
theorem ok_marks (F : C8.Def K mg "marks" s_marks f fd) (b : Binds K fd ["panel"] []) (c_need_panel : C8.Cal P w K mg base 6 "need_panel" (PureF K R_need_panel) []) (c_marks_of : C8.Cal P w K mg base 8 "marks_of" (PureF K R_marks) []) : C8.Cal P w K mg base 9 "marks" (PureF K R_marks) [] := by
  refine cal_pure F b sc_marks (fun ds r h => ?_) (fun cdv A outer s H E hr ds r h => ?_)
  · obtain ⟨_, _, _, _, rfl, _⟩ := h; rfl
  obtain ⟨p, bs, g, m, rfl, h1, h2, h3, rfl⟩ := h
  refine ⟨_, pss_cons (ps_expr (C8.pe_c c_need_panel hr (by decide) (by rfl) (pa_cons (pv 0) pa_nil))) (pss_one (ps_ret (C8.pe_c c_marks_of hr (by decide) (by rfl) (pa_cons (pv 0) pa_nil)))), fun c D k => ?_⟩
  refine go_seq (go_drop (ed_call (ea_cons (ed_var rfl) ea_nil) ⟨p, bs, rfl, h1, rfl⟩) ?_)
  exact go_ret (ed_call (ea_cons (ed_var rfl) ea_nil) ⟨p, bs, g, m, rfl, h1, h2, h3, rfl⟩) k
end
end Evr
set_option Elab.async false
set_option linter.all false
set_option maxRecDepth 100000
set_option maxHeartbeats 4000000
/-! Dicts by rows as frozen slots. -/
namespace Evr
open PySem PySem.Spec PyProof.Rows L2
def RowOk (K : PySem.W.Frag) (G : Hp) (r : DRow) (p : Part) : Prop := r.1 = p.1 ∧ SqT K G r.2.1 (r.1.map V.int) ∧ Dp K G (.ref r.2.2) (.tuple [.int p.2.1, .int p.2.2])
def RowsOk (K : PySem.W.Frag) (G : Hp) : List DRow → List Part → Prop
  | [], [] => True
  | r :: rs, p :: ps => RowOk K G r p ∧ RowsOk K G rs ps
  | _, _ => False
section
variable {K : PySem.W.Frag} {G G' : Hp}
theorem RowOk.mono {r : DRow} {p : Part} (s : Same G G') (x : RowOk K G r p) : RowOk K G' r p := ⟨x.1, same_t s x.2.1, dp_mono s _ _ x.2.2⟩
theorem RowsOk.mono (s : Same G G') : ∀ {rs : List DRow} {ps : List Part}, RowsOk K G rs ps → RowsOk K G' rs ps
  | [], [], _ => trivial
  | r :: rs, p :: ps, x => ⟨x.1.mono s, RowsOk.mono s x.2⟩
  | [], _ :: _, x => x.elim
  | _ :: _, [], x => x.elim
theorem RowsOk.len : ∀ {rs : List DRow} {ps : List Part}, RowsOk K G rs ps → rs.length = ps.length
  | [], [], _ => rfl
  | r :: rs, p :: ps, x => congrArg (· + 1) (RowsOk.len x.2)
  | [], _ :: _, x => x.elim
  | _ :: _, [], x => x.elim
theorem RowsOk.keys : ∀ {rs : List DRow} {ps : List Part}, RowsOk K G rs ps → rs.map (·.1) = ps.map (·.1)
  | [], [], _ => rfl
  | r :: rs, p :: ps, x => by
    rw [List.map_cons, List.map_cons, x.1.1, RowsOk.keys x.2]
  | [], _ :: _, x => x.elim
  | _ :: _, [], x => x.elim
theorem RowsOk.snoc {r : DRow} {p : Part} (y : RowOk K G r p) : ∀ {rs : List DRow} {ps : List Part}, RowsOk K G rs ps → RowsOk K G (rs ++ [r]) (ps ++ [p])
  | [], [], _ => ⟨y, trivial⟩
  | _ :: _, _ :: _, x => ⟨x.1, RowsOk.snoc y x.2⟩
  | [], _ :: _, x => x.elim
  | _ :: _, [], x => x.elim
theorem RowsOk.all : ∀ {rs : List DRow} {ps : List Part}, RowsOk K G rs ps → ∀ r ∈ rs, SqT K G r.2.1 (r.1.map V.int)
  | [], [], _, r, hr => by cases hr
  | q :: rs, p :: ps, x, r, hr => by
    rcases List.mem_cons.mp hr with e | hr
    · rw [e]; exact x.1.2.1
    · exact RowsOk.all x.2 r hr
  | [], _ :: _, x, _, _ => x.elim
  | _ :: _, [], x, _, _ => x.elim
theorem RowsOk.get : ∀ {rs : List DRow} {ps : List Part}, RowsOk K G rs ps → ∀ {i : Nat} {r : DRow}, rs[i]? = some r → ∃ p, ps[i]? = some p ∧ RowOk K G r p
  | [], [], _, i, r, e => by simp at e
  | q :: rs, p :: ps, x, 0, r, e => by
    have e' := Option.some.inj e
    subst e'
    exact ⟨p, rfl, x.1⟩
  | q :: rs, p :: ps, x, i + 1, r, e => RowsOk.get x.2 (by simpa using e)
  | [], _ :: _, x, _, _, _ => x.elim
  | _ :: _, [], x, _, _, _ => x.elim
theorem RowsOk.find {k : Row} : ∀ {rs : List DRow} {ps : List Part}, RowsOk K G rs ps → (∃ r p, (rs.find? fun r => decide (r.1 = k)) = some r ∧ lookP ps k = some p ∧ RowOk K G r p) ∨ ((rs.find? fun r => decide (r.1 = k)) = none ∧ lookP ps k = none)
  | [], [], _ => .inr ⟨rfl, rfl⟩
  | q :: rs, p :: ps, x => by
    unfold lookP
    rw [List.find?_cons, List.find?_cons, x.1.1]
    by_cases h : p.1 = k
    · rw [decide_eq_true h]
      exact .inl ⟨q, p, rfl, rfl, x.1⟩
    · rw [decide_eq_false h]
      exact RowsOk.find x.2
  | [], _ :: _, x => x.elim
  | _ :: _, [], x => x.elim
end
theorem pe_dgetR' {P : Program} {w : World} {K : PySem.W.Frag} {X : Cx} {o e f : Expr} {td ty tx : TE} {apos cpos : Pos} (eP : X.prog = P) (ew : X.w = w) (eK : X.K = K) (hu : X.A.units + 1 < cLine) (ho : PE X o td) (he : PE X e ty) (hf : PE X f tx) (m : M2 X o "get" apos e f cpos) :
    PE X (.Call (.Attribute o "get" apos) [e, f] [] cpos) (tDGetR P w K td ty tx) := by
  subst eP ew eK
  exact pe_dgetR hu ho he hf m
theorem pc_dnotinR' {P : Program} {w : World} {K : PySem.W.Frag} {X : Cx} {o i : Expr} {td ty : TE} (eP : X.prog = P) (ew : X.w = w) (eK : X.K = K) (hu : X.A.units + 1 < cLine) (hi : PE X i ty) (ho : PE X o td) : PC X .NotIn i o (tDNotInR P w K ty td) := by
  subst eP ew eK
  exact pc_dnotinR hu hi ho
theorem upd_hid {H : Hp} {a : Addr} {o : HO} : upd (hid H a) a o = upd H a o := by
  funext b
  by_cases h : b = a
  · subst h; rw [upd_same, upd_same]
  · rw [upd_ne h, upd_ne h, hid_ne h]
def mapD (P : Program) (w : World) (K : PySem.W.Frag) (ps : List Part) : Hp → V → Prop := fun H v => ∃ d od rows, v = .ref d ∧ H d = some (.frz od (DtO P w d rows)) ∧ RowsOk K H rows ps
def EvF (K : PySem.W.Frag) (te : TE) (Γ : List Sl) (φ : Hp → V → Prop) : Prop :=
  ∀ h H0 σ H, Sat K h H0 σ H Γ → ∀ Q : VK, (∀ v H0' H', Adv H0 H H0' H' → φ H0' v → Q v H') → te σ H Q
section
variable {P : Program} {w : World} {K : PySem.W.Frag} {c : Cxt} {Γ : List Sl} {te ty tx tk tv : TE} {D : Ends} {i : Nat} {ps : List Part} {wi : TI} {g : TG} {vs : List Nat} {k : Row} {dz : PyData}
theorem mapD_mono {H G : Hp} {v : V} (x : mapD P w K ps H v) (s : Same H G) : mapD P w K ps G v := by
  obtain ⟨d, od, rows, rfl, e, ok⟩ := x
  exact ⟨d, od, rows, rfl, s _ _ e, ok.mono s⟩
theorem go_asgF (h : EvF K te Γ (mapD P w K ps)) (k : Go K c (Γ.set i (.fr (mapD P w K ps))) D.nx) : Go K c Γ (tAsg te (gName i) D) := fun H0 σ H a x =>
  h c.h H0 σ H x _ fun v H1 H' a1 e => k H1 _ H' (a.adv a1) ((x.adv a1).setFr fun G s => mapD_mono e s)
theorem ef_dcR (hi : ItD K wi Γ (partsD ps)) (nd : (ps.map (·.1)).Nodup) (hl : ps.length ≤ 400)
    (hs : ∀ (i : Nat) p, ps[i]? = some p → ∃ Γ2, TgW K g vs (.tuple [rowD p.1, .int p.2.1, .int p.2.2]) (wipeG Γ vs) Γ2 ∧ EvD K tk Γ2 (rowD p.1) ∧ EvD K tv Γ2 (.tuple [.int p.2.1, .int p.2.2])) : EvF K (tDcR P w K wi g tk tv vs) Γ (mapD P w K ps) := fun hh H0 σ H x Q q =>
  hi hh H0 σ H x _ fun J Hf H1 a wk D hD => by
    have dl : (partsD ps).length = ps.length := List.length_map _
    refine ⟨fun i m H => m = ps.length - i ∧ i ≤ ps.length ∧ ∃ G0 rows, Adv Hf H1 G0 H ∧ G0 D = none ∧ H D = some (DtO P w D rows) ∧ RowsOk K G0 rows (ps.take i), ⟨_, rfl, Nat.zero_le _, Hf, [], (Adv.refl a.i).write hD (a.i.free hD), a.i.free hD, upd_same, trivial⟩, ?_⟩
    rintro i m H ⟨rfl, hle, G0, rows, aH, n0, eD, ok⟩
    by_cases hlt : i < ps.length
    · refine .inr ⟨wk.go i H (by rw [dl]; exact hlt) (aH.b.trans aH.i), fun H' => i + 1 ≤ ps.length ∧ ∃ G0 rows, Adv Hf H1 G0 H' ∧ G0 D = none ∧ H' D = some (DtO P w D rows) ∧ RowsOk K G0 rows (ps.take (i + 1)), fun H' p => ⟨_, by omega, rfl, p.1, p.2⟩, fun v H' y => ?_⟩
      obtain ⟨d, e, kk⟩ := wk.yld i H v H' (by rw [dl]; exact hlt) (aH.b.trans aH.i) y
      obtain ⟨p, ep, rfl, _⟩ := part_get e
      obtain ⟨G1, a1, e1⟩ := kk G0 aH.b aH.i
      obtain ⟨Γ2, tg, hk, hv⟩ := hs i p ep
      refine tg hh G1 _ H' v (((x.adv a).adv (aH.trans a1)).wipe vs) e1 _ fun σ' w1 x2 => ⟨w1.trans wipe_wipe, ?_⟩
      refine hk hh G1 σ' H' x2 _ fun yk G2 H2 a2 e2 => ?_
      refine hv hh G2 σ' H2 (x2.adv a2) _ fun yv G3 H3 a3 e3 => ?_
      have a13 := a1.trans (a2.trans a3)
      have keep := a13.keep n0 eD
      obtain ⟨kb, xs, rfl, sq, ha⟩ := dp_tup (dp_mono a3.b _ _ e2)
      rw [dps_intsV ha] at sq
      obtain ⟨cc, ys, rfl, _, _⟩ := dp_tup e3
      have ok3 := ok.mono a13.b
      have ks := ok.keys
      have hnew : p.1 ∉ rows.map (·.1) := by
        rw [ks, List.map_take]
        intro hm
        obtain ⟨j, hj, ej⟩ := List.mem_iff_getElem.mp hm
        rw [List.length_take, List.length_map] at hj
        rw [List.getElem_take] at ej
        have hi2 : i < (ps.map (·.1)).length := by rw [List.length_map]; exact hlt
        have e2' : (ps.map (·.1))[i] = p.1 := by
          rw [List.getElem_map]
          have := List.getElem?_eq_getElem hlt
          rw [this] at ep
          rw [Option.some.inj ep]
        exact List.pairwise_iff_getElem.mp nd j i (by rw [List.length_map]; omega) hi2 (by omega) (by rw [ej, e2'])
      refine ⟨rows, p.1, kb, cc, rfl, rfl, same_t a3.i sq, fun r hr => same_t a3.i (ok3.all r hr), keep.2, hnew, ?_, hlt, G3, _, (aH.trans a13).write hD keep.1, keep.1, upd_same, ?_⟩
      · rw [ok.len, List.length_take]
        omega
      · rw [List.take_add_one, ep]
        exact ok3.snoc ⟨rfl, sq, e3⟩
    · have e : i = ps.length := by omega
      subst e
      rw [List.take_length] at ok
      refine .inl ⟨by have := wk.stop H (aH.b.trans aH.i); rw [dl] at this; exact this, rows, eD, fun od => ?_⟩
      have hz := (a.trans aH).hid (a.s.free hD) n0
      have an := hz.trans (Adv.new (o := .frz od (DtO P w D rows)) hz.i hid_at)
      rw [upd_hid] at an
      exact q _ _ _ an ⟨D, od, rows, rfl, upd_same, ok.mono (same_new n0)⟩
theorem ed_dgetR (e : Γ[i]? = some (.fr (mapD P w K ps))) (hk : EvD K ty Γ (rowD k)) (hx : EvD K tx Γ dz) : EvD K (tDGetR P w K (tVar i) ty tx) Γ (((lookP ps k).map fun p => PyData.tuple [.int p.2.1, .int p.2.2]).getD dz) := fun hh H0 σ H x Q q => by
  obtain ⟨v, e1, φ⟩ := x.getFr e
  obtain ⟨d, od, rows, rfl, hd, ok⟩ := φ H0 (Same.refl _)
  refine ⟨_, e1, d, rows, rfl, .inr ⟨od, x.i _ _ hd⟩, ?_⟩
  refine hk hh H0 σ H x _ fun y H1 H' a e2 => hx hh H1 σ H' (x.adv a) _ fun z H2 H'' a2 e3 => ?_
  obtain ⟨kb, xs, rfl, sq, ha⟩ := dp_tup (dp_mono a2.b _ _ e2)
  rw [dps_intsV ha] at sq
  have b2 := a.b.trans a2.b
  have ok2 := ok.mono b2
  refine ⟨kb, k, rfl, .inr ⟨od, a2.i _ _ (b2 _ _ hd)⟩, same_t a2.i sq, fun r hr => same_t a2.i (ok2.all r hr), ?_⟩
  rcases ok2.find (k := k) with ⟨r, p, h1, h2, h3⟩ | ⟨h1, h2⟩
  · rw [h1]
    rw [h2] at q
    exact q _ _ _ (a.trans a2) h3.2.2
  · rw [h1]
    rw [h2] at q
    exact q _ _ _ (a.trans a2) e3
theorem ed_dnotinR (e : Γ[i]? = some (.fr (mapD P w K ps))) (hk : EvD K ty Γ (rowD k)) : EvD K (tDNotInR P w K ty (tVar i)) Γ (.bool (lookP ps k).isNone) := fun hh H0 σ H x Q q => by
  obtain ⟨v, e1, φ⟩ := x.getFr e
  obtain ⟨d, od, rows, rfl, hd, ok⟩ := φ H0 (Same.refl _)
  refine hk hh H0 σ H x _ fun y H1 H' a e2 => ⟨_, e1, ?_⟩
  obtain ⟨kb, xs, rfl, sq, ha⟩ := dp_tup e2
  rw [dps_intsV ha] at sq
  have ok2 := ok.mono a.b
  refine ⟨d, kb, rows, k, rfl, rfl, .inr ⟨od, a.i _ _ (a.b _ _ hd)⟩, same_t a.i sq, fun r hr => same_t a.i (ok2.all r hr), ?_⟩
  rcases ok2.find (k := k) with ⟨r, p, h1, h2, h3⟩ | ⟨h1, h2⟩
  · rw [h1]
    rw [h2] at q
    exact q _ _ _ a (.bl _)
  · rw [h1]
    rw [h2] at q
    exact q _ _ _ a (.bl _)
def itemsD (ps : List Part) : List PyData := ps.map fun p => .tuple [rowD p.1, .tuple [.int p.2.1, .int p.2.2]]
theorem it_itR (e : Γ[i]? = some (.fr (mapD P w K ps))) : ItD K (iItR P w (tVar i)) Γ (itemsD ps) := fun hh H0 σ H x R k => by
  obtain ⟨v, e1, φ⟩ := x.getFr e
  obtain ⟨d, od, rows, rfl, hd, ok⟩ := φ H0 (Same.refl _)
  have ln : (itemsD ps).length = rows.length := by
    unfold itemsD
    rw [List.length_map, ok.len]
  refine ⟨_, e1, d, od, rows, rfl, x.i _ _ hd, k _ H0 H (Adv.refl x.i) ⟨fun i H hi s => ⟨s _ _ hd, by rw [ln] at hi; exact hi⟩, fun H s => ⟨s _ _ hd, by rw [ln]; exact Nat.le_refl _⟩, fun i H v H' hi s y => ?_⟩⟩
  obtain ⟨T, r, h1, rfl, h2, h3⟩ := y
  obtain ⟨p, ep, r1, r2, r3⟩ := ok.get h1
  refine ⟨.tuple [rowD p.1, .tuple [.int p.2.1, .int p.2.2]], ?_, fun G s1 s2 => ?_⟩
  · unfold itemsD
    rw [List.getElem?_map, ep]
    rfl
  · rw [r1] at r2
    exact yld_pair (.tup r2 (dps_ints _)) r3 h2 h3 s1 s2
end
end Evr
set_option Elab.async false
set_option linter.all false
set_option maxRecDepth 100000
set_option maxHeartbeats 4000000
namespace Evr
open PySem PySem.Spec PyProof.Rows L2
section
variable {P : Program} {w : World} {K : PySem.W.Frag} {mg : Str → Option Value} {base : Heap} {f : Addr} {fd : FuncData}
def R_undivided : List PyData → PyData → Prop := fun ds r => ∃ ns : List Int, ds = [.list (rowsI ns)] ∧ ns.length < 64 ∧ (∀ n ∈ ns, 0 < n) ∧ r = .list (rowsI (undM ns))
abbrev N_und : List Str := ["numbers", "ranked", "number", "other"]
theorem sc_undivided : FnScope N_und ["numbers"] (C8.fnScope s_undivided) := C8.fnScope_by (by decide +kernel)
theorem sortU_len : ∀ ns : List Int, (sortU ns).length ≤ ns.length
  | [] => Nat.le_refl _
  | x :: r => by
    have h : ∀ m : List Int, (insU x m).length ≤ m.length + 1 := by
      intro m
      induction m with
      | nil => exact Nat.le_refl _
      | cons y m ih =>
        unfold insU
        split
        · exact Nat.le_refl _
        · split
          · exact Nat.le_succ _
          · exact Nat.succ_le_succ ih
    exact Nat.le_trans (h _) (Nat.succ_le_succ (sortU_len r))
theorem ok_undivided (T : Txt K mg) (F : C8.Def K mg "undivided" s_undivided f fd) (b : Binds K fd ["numbers"] []) : C8.Cal P w K mg base 1 "undivided" (PureF K R_undivided) [] := by
  refine cal_pure F b sc_undivided (fun ds r h => ?_) (fun cdv A outer s H E hr ds r h => ?_)
  · obtain ⟨_, rfl, _⟩ := h; rfl
  obtain ⟨ns, rfl, hl, hpos, rfl⟩ := h
  refine ⟨_, pss_cons (ps_set (i := 1) sc_undivided.nd rfl (by first | exact .inl rfl | exact .inr rfl) (pe_callB (cr_sortedSet (by rfl)) (by rfl) T.sorted_ (by decide +kernel) (pa_cons (pe_callTy (cr_setIL (by rfl)) (by rfl) T.set_ (by decide +kernel) (pa_cons
      (pe_lc (own := [("number", 2)]) (g := gName 2) (by rfl) sc_undivided.nd (pi_list (pv 0)) (blkOk_by (N := N_und) (sc := C8.fnScope s_undivided) (by decide +kernel)) (fun _ _ _ _ _ => pg_name (i := 2) sc_undivided.nd rfl (.inl rfl)) (fun _ _ _ _ _ => pts_nil)
        (fun _ _ _ _ _ => pe_callTy (r := rIntQ) call_int1 (by rfl) T.int_ (by decide +kernel) (pa_cons (pv 2) pa_nil))) pa_nil)) pa_nil)))
    (pss_one (ps_ret (pe_lc (own := [("number", 2)]) (g := gName 2) (by rfl) sc_undivided.nd (pi_list (pv 1)) (blkOk_by (N := N_und) (sc := C8.fnScope s_undivided) (by decide +kernel)) (fun _ _ _ _ _ => pg_name (i := 2) sc_undivided.nd rfl (by first | exact .inl rfl | exact .inr rfl))
      (fun _ _ _ _ _ => pts_one (pt_not (pt_val (pe_callB (r := rAny K) (cr_any (by rfl)) (by rfl) T.any_ (by decide +kernel) (pa_cons (pe_lc (own := [("other", 3)]) (g := gName 3) (wi := iList K (tVar 1)) (by rfl) sc_undivided.nd (pi_list (pv 1)) (blkOk_by (by rfl)) (fun _ _ _ _ _ => pg_name (i := 3) sc_undivided.nd rfl (.inl rfl))
        (fun _ _ _ _ _ => pts_one (pt_cmpR op_lt (pv 3) (pv 2) (nomark _))) (fun _ _ _ _ _ => pe_cmpR op_eq (pe_op op_mod (pv 2) (pv 3)) pe_int (nomark _))) pa_nil))))) (fun _ _ _ _ _ => pv 2)))), fun c D k => ?_⟩
  have hlu := sortU_len ns
  have hpu : ∀ n ∈ sortU ns, 0 < n := fun n hn => hpos n ((sortU_mem ns n).mp hn)
  have F1 : ∀ (l : List Int) (t : Int → Option Bool) (g : PyData → Option PyData), (∀ x, g (.int x) = (t x).map PyData.bool) → (rowsI l).filterMap g = (l.filterMap t).map PyData.bool := fun l t g hg => by
    rw [List.filterMap_map, List.map_filterMap]
    congr 1
    funext x
    exact hg x
  refine go_seq (go_asgN (es := rowsI (sortU ns)) (en_sortSet (EvN.toD (EvN.is (en_map (fun d => d) (it_list (ed_var rfl)) (by rw [len_rows]; omega) fun i d e => ?_) (by rw [List.map_id']))) hl) (go_freeze (i := 1) rfl ?_))
  · obtain ⟨x, _, rfl, _⟩ := ints_get e
    exact ⟨_, tw_name (by decide), ts_nil, ed_cb1 (ed_var rfl) rc_int⟩
  refine go_ret ((EvN.toD (en_lc (fun d => match d with | .int n => if (!(((sortU ns).filterMap fun o => if o < n then some (decide (n % o = 0)) else none).any id)) = true then some (.int n) else none | _ => none) (it_list (ed_var rfl)) (by rw [len_rows]; omega) fun i d e => ?_)).is ?_) k
  · obtain ⟨x, _, rfl, _⟩ := ints_get e
    refine ⟨_, tw_name (by decide), !(((sortU ns).filterMap fun o => if o < x then some (decide (x % o = 0)) else none).any id), et_not (et_B (ed_cb1 (EvN.toD (EvN.is (en_lc (fun d => match d with | .int o => if o < x then some (.bool (decide (x % o = 0))) else none | _ => none) (it_list (ed_var rfl)) (by rw [len_rows]; omega) fun j d' e' => ?_) (F1 _ _ _ fun o => ?_))) rc_any)), fun q => ⟨_, if_pos q, ed_var rfl⟩, fun q => if_neg (by rw [q]; decide)⟩
    · obtain ⟨y, hy, rfl, _⟩ := ints_get e'
      refine ⟨_, tw_name (by decide), decide (y < x), et_test (ed_ib (ed_var rfl) (ed_var rfl)), fun q => ⟨_, if_pos (of_decide_eq_true q), ed_op (ed_i (ed_var rfl) (ed_var rfl) (hpu y (List.mem_of_getElem? hy))) ed_int rd_eqI⟩, fun q => if_neg (of_decide_eq_false q)⟩
    · show (if o < x then some (PyData.bool (decide (x % o = 0))) else none) = _
      split <;> rfl
  · congr 1
    rw [filterMap_map_int (f := fun n => if (!(((sortU ns).filterMap fun o => if o < n then some (decide (n % o = 0)) else none).any id)) = true then some n else none) (fun x => ?_)]
    · unfold undM
      rw [← List.filterMap_eq_filter]
      congr 1
    · show (if _ = true then some (PyData.int x) else none) = _
      split <;> rfl
end
end Evr
set_option Elab.async false
set_option linter.all false
set_option maxRecDepth 100000
set_option maxHeartbeats 4000000
namespace Evr
open PySem PySem.Spec PyProof.Rows L2
abbrev trD (t : Int × Int × Int) : PyData := .tuple [.int t.1, .int t.2.1, .int t.2.2]
theorem okP_iff {a : List Part} (h : okP a = true) : (a.map (·.1)).Nodup ∧ a.length ≤ 400 := by
  unfold okP at h
  rw [Bool.and_eq_true] at h
  exact ⟨of_decide_eq_true h.1, of_decide_eq_true h.2⟩
theorem item_get {ps : List Part} {i : Nat} {d : PyData} (h : (itemsD ps)[i]? = some d) : ∃ p, ps[i]? = some p ∧ d = .tuple [rowD p.1, .tuple [.int p.2.1, .int p.2.2]] := by
  unfold itemsD at h
  rw [List.getElem?_map] at h
  cases q : ps[i]? with
  | none => rw [q] at h; cases h
  | some x =>
    rw [q] at h
    cases h
    exact ⟨x, rfl, rfl⟩
def rowOf (r : List PyData) : Row := r.filterMap fun d => match d with
  | .int i => some i
  | _ => none
theorem rowOf_ints : ∀ r : Row, rowOf (r.map PyData.int) = r
  | [] => rfl
  | x :: r => by
    show x :: rowOf (r.map PyData.int) = _
    rw [rowOf_ints r]
def newF (p1 : List Part) : PyData → Option PyData := fun d => match d with
  | .tuple [.tuple r, .tuple [.int t, .int o]] => if (lookP p1 (rowOf r)).isNone = true then some (.tuple [.int o, .int 0, .int t]) else none
  | _ => none
theorem newF_at (p1 : List Part) (x : Part) : newF p1 (.tuple [rowD x.1, .tuple [.int x.2.1, .int x.2.2]]) = if (lookP p1 x.1).isNone = true then some (.tuple [.int x.2.2, .int 0, .int x.2.1]) else none := by
  show (if (lookP p1 (rowOf (x.1.map PyData.int))).isNone = true then _ else _) = _
  rw [rowOf_ints]
theorem newF_all (p1 : List Part) : ∀ p2 : List Part, (itemsD p2).filterMap (newF p1) = ((p2.filter fun x => (lookP p1 x.1).isNone).map fun x => (x.2.2, (0 : Int), x.2.1)).map trD
  | [] => rfl
  | x :: p2 => by
    have ih := newF_all p1 p2
    show List.filterMap (newF p1) (_ :: itemsD p2) = _
    rw [List.filterMap_cons, newF_at, List.filter_cons]
    cases h : (lookP p1 x.1).isNone with
    | true =>
      rw [if_pos rfl, if_pos rfl, ih]
      rfl
    | false =>
      rw [if_neg (by decide), if_neg (by decide), ih]
section
variable {P : Program} {w : World} {K : PySem.W.Frag} {mg : Str → Option Value} {base : Heap} {f : Addr} {fd : FuncData}
def R_times_in : List PyData → PyData → Prop := fun ds r => ∃ p b1 b2 g1 g2 p1 p2, ds = [panelD p b1, panelD p b2] ∧ panB p b1 = true ∧ panB p b2 = true ∧ genM p b1 = some g1 ∧ genM p b2 = some g2 ∧ partsM p g1 = some p1 ∧ partsM p g2 = some p2 ∧ okP p1 = true ∧ okP p2 = true ∧ r = .list ((timesInM p1 p2).map trD)
abbrev N_times : List Str := ["one", "other", "mine", "its", "found", "factor", "times", "order_here"]
theorem sc_times_in : FnScope N_times ["one", "other"] (C8.fnScope s_times_in) := C8.fnScope_by (by decide +kernel)
theorem ok_times_in (F : C8.Def K mg "times_in" s_times_in f fd) (b : Binds K fd ["one", "other"] []) (c_parts_of : C8.Cal P w K mg base 7 "parts_of" (PureF K R_parts_of) []) : C8.Cal P w K mg base 8 "times_in" (PureF K R_times_in) [] := by
  refine cal_pure F b sc_times_in (fun ds r h => ?_) (fun cdv A outer s H E hr ds r h => ?_)
  · obtain ⟨_, _, _, _, _, _, _, rfl, _⟩ := h; rfl
  obtain ⟨p, b1, b2, g1, g2, p1, p2, rfl, h1, h2, h3, h4, h5, h6, h7, h8, rfl⟩ := h
  obtain ⟨n1, l1⟩ := okP_iff h7
  obtain ⟨n2, l2⟩ := okP_iff h8
  have hu : (A.deeper (envOfC "times_in" (C8.fnScope s_times_in) s.heap.objs.size f cdv)).units + 1 < cLine := by have := hr.units; omega
  refine ⟨_, pss_cons (ps_set (i := 2) sc_times_in.nd rfl (by first | exact .inl rfl | exact .inr rfl) (pe_dcR (own := [("factor", 5), ("times", 6), ("order_here", 7)]) (g := gTup K 3 (gCons (gName 5) (gCons (gName 6) (gCons (gName 7) gNil)))) (by rfl) hr.units0 sc_times_in.nd (pi_list (C8.pe_c c_parts_of hr (by decide) (by rfl) (pa_cons (pv 0) pa_nil))) (blkOk_by (N := N_times) (sc := C8.fnScope s_times_in) (by decide +kernel))
      (fun _ _ _ _ _ => pg_tup rfl (pgs_cons (pg_name (i := 5) sc_times_in.nd rfl (.inl rfl)) (pgs_cons (pg_name (i := 6) sc_times_in.nd rfl (.inl rfl)) (pgs_cons (pg_name (i := 7) sc_times_in.nd rfl (.inl rfl)) pgs_nil)))) (fun _ _ _ _ _ => pv 5) (fun _ _ _ _ _ => pe_tup (pa_cons (pv 6) (pa_cons (pv 7) pa_nil)))))
    (pss_cons (ps_set (i := 3) sc_times_in.nd rfl (by first | exact .inl rfl | exact .inr rfl) (pe_dcR (own := [("factor", 5), ("times", 6), ("order_here", 7)]) (g := gTup K 3 (gCons (gName 5) (gCons (gName 6) (gCons (gName 7) gNil)))) (by rfl) hr.units0 sc_times_in.nd (pi_list (C8.pe_c c_parts_of hr (by decide) (by rfl) (pa_cons (pv 1) pa_nil))) (blkOk_by (N := N_times) (sc := C8.fnScope s_times_in) (by decide +kernel))
      (fun _ _ _ _ _ => pg_tup rfl (pgs_cons (pg_name (i := 5) sc_times_in.nd rfl (.inl rfl)) (pgs_cons (pg_name (i := 6) sc_times_in.nd rfl (.inl rfl)) (pgs_cons (pg_name (i := 7) sc_times_in.nd rfl (.inl rfl)) pgs_nil)))) (fun _ _ _ _ _ => pv 5) (fun _ _ _ _ _ => pe_tup (pa_cons (pv 6) (pa_cons (pv 7) pa_nil)))))
    (pss_cons (ps_setLc (i := 4) (own := [("factor", 5), ("times", 6), ("order_here", 7)]) (g := gTup K 2 (gCons (gName 5) (gCons (gTup K 2 (gCons (gName 6) (gCons (gName 7) gNil))) gNil))) (wi := iItR P w (tVar 2)) (by rfl) sc_times_in.nd rfl rfl (sw_true rfl rfl rfl (by decide +kernel)) (pi_itR (pv 2)) (blkOk_by (N := N_times) (sc := C8.fnScope s_times_in) (by decide +kernel))
      (fun _ _ _ _ _ => pg_tup rfl (pgs_cons (pg_name (i := 5) sc_times_in.nd rfl (.inl rfl)) (pgs_cons (pg_tup rfl (pgs_cons (pg_name (i := 6) sc_times_in.nd rfl (.inl rfl)) (pgs_cons (pg_name (i := 7) sc_times_in.nd rfl (.inl rfl)) pgs_nil))) pgs_nil))) (fun _ _ _ _ _ => pts_nil)
      (fun _ _ _ _ _ => pe_tup (pa_cons (pv 7) (pa_cons (pv 6) (pa_cons (pe_ix (r := rIxT K) ix_tup (pe_dgetR' (P := P) (w := w) (K := K) (by rfl) (by rfl) (by rfl) hu (pv 3) (pv 5) (pe_tup (pa_cons pe_int (pa_cons pe_int pa_nil))) ⟨by rfl, by rfl, by rfl, by rfl⟩) pe_int (fun _ _ => rfl)) pa_nil)))))
    (pss_one (ps_ret (pe_op op_cat (pv 4) (pe_lc (own := [("factor", 5), ("times", 6), ("order_here", 7)]) (g := gTup K 2 (gCons (gName 5) (gCons (gTup K 2 (gCons (gName 6) (gCons (gName 7) gNil))) gNil))) (wi := iItR P w (tVar 3)) (by rfl) sc_times_in.nd (pi_itR (pv 3)) (blkOk_by (N := N_times) (sc := C8.fnScope s_times_in) (by decide +kernel))
      (fun _ _ _ _ _ => pg_tup rfl (pgs_cons (pg_name (i := 5) sc_times_in.nd rfl (.inl rfl)) (pgs_cons (pg_tup rfl (pgs_cons (pg_name (i := 6) sc_times_in.nd rfl (.inl rfl)) (pgs_cons (pg_name (i := 7) sc_times_in.nd rfl (.inl rfl)) pgs_nil))) pgs_nil))) (fun _ _ _ _ _ => pts_one (pt_cmp (pc_dnotinR' (P := P) (w := w) (K := K) (by rfl) (by rfl) (by rfl) hu (pv 5) (pv 2))))
      (fun _ _ _ _ _ => pe_tup (pa_cons (pv 7) (pa_cons pe_int (pa_cons (pv 6) pa_nil)))))))))), fun c D k => ?_⟩
  have prt : ∀ {i : Nat} {x : Part} {l : List Part}, l[i]? = some x → True := fun _ => trivial
  refine go_seq (go_asgF (ps := p1) (ef_dcR (it_list (ed_call (ea_cons (ed_var rfl) ea_nil) ⟨p, b1, g1, p1, rfl, h1, h3, h5, rfl⟩)) n1 l1 fun i x e => ⟨_, tw_tup (tws_cons (tw_name (by decide)) (tws_cons (tw_name (by decide)) (tws_cons (tw_name (by decide)) tws_nil))) rfl, ed_var rfl, ed_tup (ea_cons (ed_var rfl) (ea_cons (ed_var rfl) ea_nil)) (by simp)⟩) ?_)
  refine go_seq (go_asgF (ps := p2) (ef_dcR (it_list (ed_call (ea_cons (ed_var rfl) ea_nil) ⟨p, b2, g2, p2, rfl, h2, h4, h6, rfl⟩)) n2 l2 fun i x e => ⟨_, tw_tup (tws_cons (tw_name (by decide)) (tws_cons (tw_name (by decide)) (tws_cons (tw_name (by decide)) tws_nil))) rfl, ed_var rfl, ed_tup (ea_cons (ed_var rfl) (ea_cons (ed_var rfl) ea_nil)) (by simp)⟩) ?_)
  have li : ∀ l : List Part, (itemsD l).length = l.length := fun l => List.length_map _
  refine go_seq (go_asgN (es := (p1.map fun x => (x.2.2, x.2.1, ((lookP p2 x.1).map (·.2.1)).getD 0)).map trD) (en_each (it_itR (ps := p1) rfl) (by rw [li]; omega) (by rw [li, List.length_map, List.length_map]) fun i d e => ?_) ?_)
  · obtain ⟨x, ex, rfl⟩ := item_get e
    refine ⟨trD (x.2.2, x.2.1, ((lookP p2 x.1).map (·.2.1)).getD 0), by rw [List.getElem?_map, List.getElem?_map, ex]; rfl, _, tw_tup (tws_cons (tw_name (by decide)) (tws_cons (tw_tup (tws_cons (tw_name (by decide)) (tws_cons (tw_name (by decide)) tws_nil)) rfl) tws_nil)) rfl, ts_nil,
      ed_tup (ea_cons (ed_var rfl) (ea_cons (ed_var rfl) (ea_cons ?_ ea_nil))) (by simp)⟩
    have hg := ed_dgetR (P := P) (w := w) (K := K) (ps := p2) (k := x.1) (dz := .tuple [.int 0, .int 0]) (Γ := (((wipeG [Sl.d (panelD p b1), .d (panelD p b2), .fr (mapD P w K p1), .fr (mapD P w K p2), .no, .no, .no, .no] [5, 6, 7]).set 5 (.d (rowD x.1))).set 6 (.d (.int x.2.1))).set 7 (.d (.int x.2.2))) (i := 3) (ty := tVar 5) (tx := tTup (tCons (tC (.int 0)) (tCons (tC (.int 0)) tNil))) rfl (ed_var rfl) (ed_tup (ea_cons ed_int (ea_cons ed_int ea_nil)) (by simp))
    cases hlk : lookP p2 x.1 with
    | none =>
      rw [hlk] at hg
      exact ed_op hg ed_int (rd_ixT (d := .int 0) rfl)
    | some y =>
      rw [hlk] at hg
      exact ed_op hg ed_int (rd_ixT (d := .int y.2.1) rfl)
  refine go_ret (EvN.toD (EvN.is (en_cat (es := ((p2.filter fun x => (lookP p1 x.1).isNone).map fun x => (x.2.2, (0 : Int), x.2.1)).map trD) (ls_own rfl) (ls_new (EvN.is (en_lc (newF p1) (it_itR (ps := p2) rfl) (by rw [li]; omega) fun i d e => ?_) (newF_all p1 p2))) ?_) ?_)) k
  · obtain ⟨x, ex, rfl⟩ := item_get e
    rw [newF_at]
    refine ⟨_, tw_tup (tws_cons (tw_name (by decide)) (tws_cons (tw_tup (tws_cons (tw_name (by decide)) (tws_cons (tw_name (by decide)) tws_nil)) rfl) tws_nil)) rfl, (lookP p1 x.1).isNone, et_test (ed_dnotinR (ps := p1) (k := x.1) rfl (ed_var rfl)), fun q => ⟨_, if_pos q, ed_tup (ea_cons (ed_var rfl) (ea_cons ed_int (ea_cons (ed_var rfl) ea_nil))) (by simp)⟩, fun q => if_neg (by rw [q]; decide)⟩
  · have := List.length_filter_le (fun x : Part => (lookP p1 x.1).isNone) p2
    rw [List.length_map, List.length_map, List.length_map, List.length_map]
    omega
  · unfold timesInM
    rw [List.map_append]
/-! outside_on -/
def R_outside_on : List PyData → PyData → Prop := fun ds r => ∃ p b1 b2 g1 g2 ns, ds = [panelD p b1, panelD p b2] ∧ panB p b1 = true ∧ panB p b2 = true ∧ genM p b1 = some g1 ∧ genM p b2 = some g2 ∧ outsideM p g1 g2 = some ns ∧ r = .list (rowsI (undM ns))
abbrev N_outside : List Str := ["one", "other", "found", "order_here", "first", "second"]
theorem sc_outside_on : FnScope N_outside ["one", "other"] (C8.fnScope s_outside_on) := C8.fnScope_by (by decide +kernel)
theorem tr_get {l : List (Int × Int × Int)} {i : Nat} {d : PyData} (h : (l.map trD)[i]? = some d) : ∃ x, l[i]? = some x ∧ d = trD x ∧ l.drop i = x :: l.drop (i + 1) := by
  rw [List.getElem?_map] at h
  cases q : l[i]? with
  | none => rw [q] at h; cases h
  | some x =>
    rw [q] at h
    cases h
    obtain ⟨h1, h2⟩ := List.getElem?_eq_some_iff.mp q
    exact ⟨x, rfl, rfl, by rw [List.drop_eq_getElem_cons h1, h2]⟩
theorem times_len {p1 p2 : List Part} (l1 : p1.length ≤ 400) (l2 : p2.length ≤ 400) : (timesInM p1 p2).length ≤ 800 := by
  unfold timesInM
  have := List.length_filter_le (fun x : Part => (lookP p1 x.1).isNone) p2
  rw [List.length_append, List.length_map, List.length_map]
  omega
theorem ok_outside_on (F : C8.Def K mg "outside_on" s_outside_on f fd) (b : Binds K fd ["one", "other"] []) (c_times_in : C8.Cal P w K mg base 8 "times_in" (PureF K R_times_in) []) (c_least : C8.Cal P w K mg base 1 "least_power" (PureF K R_least_power) []) (c_und : C8.Cal P w K mg base 1 "undivided" (PureF K R_undivided) []) :
    C8.Cal P w K mg base 9 "outside_on" (PureF K R_outside_on) [] := by
  refine cal_pure F b sc_outside_on (fun ds r h => ?_) (fun cdv A outer s H E hr ds r h => ?_)
  · obtain ⟨_, _, _, _, _, _, rfl, _⟩ := h; rfl
  obtain ⟨p, b1, b2, g1, g2, ns, rfl, h1, h2, h3, h4, h5, rfl⟩ := h
  unfold outsideM at h5
  obtain ⟨p1, h6, h5⟩ := Option.bind_eq_some_iff.mp h5
  obtain ⟨p2, h7, h5⟩ := Option.bind_eq_some_iff.mp h5
  split at h5
  case isFalse => cases h5
  case isTrue hok =>
  rw [Bool.and_eq_true] at hok
  obtain ⟨n1, l1⟩ := okP_iff hok.1
  obtain ⟨n2, l2⟩ := okP_iff hok.2
  obtain ⟨ns', h8, h5⟩ := Option.bind_eq_some_iff.mp h5
  split at h5
  case isFalse => cases h5
  case isTrue hns =>
  cases h5
  rw [Bool.and_eq_true] at hns
  refine ⟨_, pss_cons (ps_set (i := 2) sc_outside_on.nd rfl (.inl rfl) (pe_lst pa_nil))
    (pss_cons (ps_for PassesOwn.never rfl (pi_list (C8.pe_c c_times_in hr (by decide) (by rfl) (pa_cons (pv 0) (pa_cons (pv 1) pa_nil)))) (pg_tup rfl (pgs_cons (pg_name (i := 3) sc_outside_on.nd rfl (.inl rfl)) (pgs_cons (pg_name (i := 4) sc_outside_on.nd rfl (.inl rfl)) (pgs_cons (pg_name (i := 5) sc_outside_on.nd rfl (.inl rfl)) pgs_nil))))
      (pss_one (ps_if (pt_cmpR op_gt (pv 5) (pv 4) (nomark _)) (pss_one (ps_expr (pe_bm PySem.F.plainAttrs_list PySem.F.slot_list_append PySem.F.type_list_append mt_append (pv 2) (pa_cons (pe_op op_mul (pv 3) (C8.pe_c c_least hr (by decide) (by rfl) (pa_cons (pe_ix ix_tup (pv 0) pe_int (fun _ _ => rfl)) (pa_cons (pe_op op_add (pv 4) pe_int) pa_nil)))) pa_nil)))) pss_nil)))
    (pss_one (ps_ret (C8.pe_c c_und hr (by decide) (by rfl) (pa_cons (pv 2) pa_nil))))), fun c D k => ?_⟩
  refine go_seq (go_asgN (es := rowsI []) (en_lst ea_nil (by decide)) ?_)
  refine go_seq (go_for (ds := (timesInM p1 p2).map trD) (Inv := fun i Γ => ∃ fo x3 x4 x5, Γ = [.d (panelD p b1), .d (panelD p b2), .own (rowsI fo), x3, x4, x5] ∧ fo.length ≤ i ∧ outF p ((timesInM p1 p2).drop i) fo = some ns)
    (it_list (ed_call (ea_cons (ed_var rfl) (ea_cons (ed_var rfl) ea_nil)) ⟨p, b1, b2, g1, g2, p1, p2, rfl, h1, h2, h3, h4, h6, h7, hok.1, hok.2, rfl⟩)) ⟨[], _, _, _, rfl, Nat.le_refl _, h8⟩ ?_ ?_)
  · rintro b0 hb0 i d Γi e ⟨fo, x3, x4, x5, rfl, hfl, hf⟩
    obtain ⟨⟨o, a1, a2⟩, e1, rfl, e2⟩ := tr_get e
    have hi : i < 800 := Nat.lt_of_lt_of_le (List.getElem?_eq_some_iff.mp e1).1 (times_len l1 l2)
    rw [e2] at hf
    unfold outF at hf
    refine ⟨_, tg_tup (tgs_cons tg_name (tgs_cons tg_name (tgs_cons tg_name tgs_nil))) rfl, ?_⟩
    refine go_if (b := decide (a1 < a2)) (et_test (ed_ib (g := fun i j => decide (j < i)) (i := a2) (j := a1) (ed_var rfl) (ed_var rfl))) (fun q => ?_) (fun q => go_next ?_)
    · rw [if_pos (of_decide_eq_true q)] at hf
      obtain ⟨l, h9, hf⟩ := Option.bind_eq_some_iff.mp hf
      split at hf
      case isFalse => cases hf
      case isTrue hs =>
      refine go_app (xs := rowsI fo) (d := .int (o * l)) rfl (ed_i (ed_var rfl) (ed_call (ea_cons (ed_op (ed_var rfl) ed_int (rd_ixT (d := .int p) rfl)) (ea_cons (ed_i0 (ed_var rfl) ed_int) ea_nil)) ⟨p, a1 + 1, l, rfl, h9, rfl⟩) (.inl (smallI_iff hs))) (by rw [len_rows]; omega) ?_
      refine go_nx ?_
      refine ⟨fo ++ [o * l], .d (.int o), .d (.int a1), .d (.int a2), ?_, ?_, hf⟩
      · show _ = [_, _, Sl.own (rowsI (fo ++ [o * l])), _, _, _]
        rw [show rowsI (fo ++ [o * l]) = rowsI fo ++ [.int (o * l)] from List.map_append]
        rfl
      · rw [List.length_append]
        exact Nat.succ_le_succ hfl
    · rw [if_neg (of_decide_eq_false q)] at hf
      refine go_nx ?_
      exact ⟨fo, _, _, _, rfl, Nat.le_succ_of_le hfl, hf⟩
  · rintro Γn ⟨fo, x3, x4, x5, rfl, hfl, hf⟩
    rw [List.length_map, List.drop_length] at hf
    cases hf
    exact go_freeze (i := 2) rfl (go_ret (ed_call (ea_cons (ed_var rfl) ea_nil) ⟨ns, rfl, of_decide_eq_true hns.1, fun n hn => of_decide_eq_true (List.all_eq_true.mp hns.2 n hn), rfl⟩) k)
/-! within -/
def R_within : List PyData → PyData → Prop := fun ds r => ∃ p b1 b2 g1 g2 t, ds = [panelD p b1, panelD p b2] ∧ panB p b1 = true ∧ panB p b2 = true ∧ genM p b1 = some g1 ∧ genM p b2 = some g2 ∧ withinM p g1 g2 = some t ∧ r = .bool t
theorem sc_within : FnScope ["one", "other"] ["one", "other"] (C8.fnScope s_within) := C8.fnScope_by (by decide +kernel)
theorem undM_len (ns : List Int) : (undM ns).length ≤ ns.length := Nat.le_trans (List.length_filter_le _ _) (sortU_len ns)
theorem shaped_ints (r : Row) : SeqAt.shaped (.list (rowsI r)) = true := by
  unfold SeqAt.shaped
  rw [PyData.canLay0, PyData.depth, lay_ints, depth_ints]
  rfl
theorem eqv_list (a b : Row) : PyData.eqv (.list (rowsI a)) (.list (rowsI b)) = decide (a = b) := by
  rw [PyData.eqv, eqv_ints]
theorem ok_within (F : C8.Def K mg "within" s_within f fd) (b : Binds K fd ["one", "other"] []) (c_need_both : C8.Cal P w K mg base 7 "need_both" (PureF K R_need_both) []) (c_outside : C8.Cal P w K mg base 9 "outside_on" (PureF K R_outside_on) []) : C8.Cal P w K mg base 10 "within" (PureF K R_within) [] := by
  refine cal_pure F b sc_within (fun ds r h => ?_) (fun cdv A outer s H E hr ds r h => ?_)
  · obtain ⟨_, _, _, _, _, _, rfl, _⟩ := h; rfl
  obtain ⟨p, b1, b2, g1, g2, t, rfl, h1, h2, h3, h4, h5, rfl⟩ := h
  unfold withinM at h5
  rw [Option.map_eq_some_iff] at h5
  obtain ⟨ns, h6, rfl⟩ := h5
  refine ⟨_, pss_cons (ps_expr (C8.pe_c c_need_both hr (by decide) (by rfl) (pa_cons (pv 0) (pa_cons (pv 1) pa_nil)))) (pss_one (ps_ret (pe_cmpR (op_eqD hr.units) (C8.pe_c c_outside hr (by decide) (by rfl) (pa_cons (pv 0) (pa_cons (pv 1) pa_nil))) (pe_lst pa_nil) (nomark _)))), fun c D k => ?_⟩
  refine go_seq (go_drop (ed_call (ea_cons (ed_var rfl) (ea_cons (ed_var rfl) ea_nil)) ⟨p, b1, b2, rfl, h1, h2, rfl⟩) ?_)
  refine go_ret ((ed_op (ed_call (ea_cons (ed_var rfl) (ea_cons (ed_var rfl) ea_nil)) ⟨p, b1, b2, g1, g2, ns, rfl, h1, h2, h3, h4, h6, rfl⟩) (EvN.toD (en_lst ea_nil (by decide))) (rd_eqD (d1 := .list (rowsI (undM ns))) (d2 := .list (rowsI [])) (shaped_ints _) (shaped_ints _))).is ?_) k
  rw [eqv_list, undM_nil]
end
end Evr
set_option Elab.async false
set_option linter.all false
set_option maxRecDepth 100000
set_option maxHeartbeats 4000000
/-! The law's spring: a list that is handed down and written. -/
namespace Evr
open PySem PySem.Spec PyProof.Rows L2
structure AdvP (p : Addr) (H0 H H0' H' : Hp) (s : List Int) : Prop where
  a : Adv H0 (hid H p) H0' H'
  n : H0' p = none
  e : H' p = some (.lst (s.map V.int))
  k : s.length = 3
section
variable {p : Addr} {H0 H H1 H' H2 H'' H0' : Hp} {s s' s1 s2 : List Int}
theorem AdvP.of (x : Adv H0 H H0' H') (n : H0 p = none) (e : H p = some (.lst (s.map V.int))) (k : s.length = 3) : AdvP p H0 H H0' H' s :=
  ⟨⟨x.b, x.i, fun b o q => by
    by_cases hb : b = p
    · rw [hb, hid_at] at q; cases q
    · rw [hid_ne hb] at q; exact x.s b o q, fun q h1 h2 => x.n q h1 fun z => h2 (by
      by_cases hb : q = p
      · rw [hb, hid_at]
      · rw [hid_ne hb]; exact z)⟩, x.n p n (by rw [e]; simp), x.s _ _ e, k⟩
theorem AdvP.trans (x : AdvP p H0 H H1 H' s1) (y : AdvP p H1 H' H2 H'' s2) : AdvP p H0 H H2 H'' s2 := by
  have pass : ∀ b, b ≠ p → ∀ o, hid H p b = some o → hid H' p b = some o := fun b hb o q => by
    rw [hid_ne hb]
    exact x.a.s b o q
  refine ⟨⟨x.a.b.trans y.a.b, y.a.i, fun b o q => ?_, fun q h1 h2 => ?_⟩, y.n, y.e, y.k⟩
  · by_cases hb : b = p
    · rw [hb, hid_at] at q; cases q
    · exact y.a.s b o (pass b hb o q)
  · by_cases hb : q = p
    · rw [hb, hid_at] at h2; exact absurd rfl h2
    · refine y.a.n q (x.a.n q h1 h2) fun z => ?_
      cases q' : hid H p q with
      | none => exact h2 q'
      | some o => rw [pass q hb o q'] at z; cases z
theorem At.spring {c : Cxt} (x : At c H0 H) (a : AdvP p H0 H H0' H' s) (hp : c.h p = none) : At c H0' H' := by
  have pass : ∀ b o, c.h b = some o → hid H p b = some o := fun b o q => by
    rw [hid_ne (ne_of_none q hp)]
    exact x.s b o q
  refine ⟨x.b.trans a.a.b, x.f.trans a.a.b, a.a.i, fun b o q => a.a.s b o (pass b o q), fun q h1 h2 => a.a.n q (x.n q h1 h2) fun z => ?_⟩
  cases q' : c.h q with
  | none => exact h2 q'
  | some o => rw [pass q o q'] at z; cases z
variable {K : PySem.W.Frag} {h : Hp} {σ : L2.St} {Γ : List Sl} {i : Nat} {pin : Option Addr}
theorem Sat.spring {xs : List PyData} (x : Sat K h H0 σ H Γ) (e : Γ[i]? = some (.own xs pin)) (ep : σ[i]? = some (some (.ref p))) (a : AdvP p H0 H H0' H' s) : Sat K h H0' σ H' (Γ.set i (.own (rowsI s) pin)) := by
  obtain ⟨o, e1, p', ws, rfl, n1, n0, l, dd, hpin⟩ := x.at_ i _ e
  rw [ep] at e1
  cases e1
  have keep : ∀ (b : Addr) o, b ≠ p → H0 b = Option.none → H b = some o → H0' b = Option.none ∧ H' b = some o := fun b o hb h1 h2 =>
    ⟨a.a.n b h1 (by rw [hid_ne hb, h2]; simp), a.a.s b o (by rw [hid_ne hb]; exact h2)⟩
  refine ⟨a.a.i, by rw [List.length_set, x.len], fun j s z => ?_, fun j k zs us r _ _ e1 e2 e3 e4 => ?_⟩
  · rcases get_set z with ⟨rfl, rfl⟩ | ⟨hj, e'⟩
    · exact ⟨some (.ref p), ep, p, _, rfl, n1, a.n, a.e, dps_ints _, hpin⟩
    · obtain ⟨o, e1, q1⟩ := x.at_ j s e'
      refine ⟨o, e1, ?_⟩
      cases s with
      | no => trivial
      | d y =>
        obtain ⟨v, e2, q2⟩ := q1
        exact ⟨v, e2, dp_mono a.a.b _ _ q2⟩
      | fr φ =>
        obtain ⟨v, e2, q2⟩ := q1
        exact ⟨v, e2, fun G g => q2 G (a.a.b.trans g)⟩
      | own us =>
        obtain ⟨r, ts, e2, z1, z2, l2, z3, z4⟩ := q1
        have hrp : r ≠ p := fun er => by
          rw [e2, er] at e1
          exact hj (x.sep j i us xs p e' e e1 ep)
        obtain ⟨k1, k2⟩ := keep r _ hrp z2 l2
        exact ⟨r, ts, e2, z1, k1, k2, dps_mono a.a.b _ _ z3, z4⟩
      | obj u =>
        obtain ⟨r, e2, z1, z2, l2, z3⟩ := q1
        have hrp : r ≠ p := fun er => by
          rw [er, l] at l2
          exact z3 ws (Option.some.inj l2).symm
        obtain ⟨k1, k2⟩ := keep r _ hrp z2 l2
        exact ⟨r, e2, z1, k1, k2, z3⟩
  · have f : ∀ {m : Nat} {ts : List PyData} {pn : Option Addr}, (Γ.set i (.own (rowsI s) pin))[m]? = some (.own ts pn) → ∃ ts' pn', Γ[m]? = some (.own ts' pn') := fun {m ts pn} hm => by
      rcases get_set hm with ⟨rfl, _⟩ | ⟨_, hm⟩
      · exact ⟨xs, _, e⟩
      · exact ⟨ts, _, hm⟩
    obtain ⟨_, _, f1⟩ := f e1
    obtain ⟨_, _, f2⟩ := f e2
    exact x.sep j k _ _ r f1 f2 e3 e4
end
/-! ### what an expression is worth that may write the spring in slot i -/
def Spr (Γ : List Sl) (i : Nat) : Prop := ∃ s pin, s.length = 3 ∧ Γ[i]? = some (.own (rowsI s) pin)
def EvX (K : PySem.W.Frag) (te : TE) (Γ : List Sl) (i : Nat) (P : PyData → Prop) : Prop := ∀ h H0 σ H p, Sat K h H0 σ H Γ → σ[i]? = some (some (.ref p)) → ∀ Q : VK, (∀ v d s H0' H', P d → AdvP p H0 H H0' H' s → Dp K H0' v d → Q v H') → te σ H Q
def SprF (K : PySem.W.Frag) (dom : List PyData → Prop) (R : List PyData → PyData → Prop) : L2.Sp := fun vs H Q _ => ∃ (H0 : Hp) (p : Addr) (s : List Int) (us : List V) (ds : List PyData), vs = .ref p :: us ∧ Same H0 H ∧ H0 p = none ∧ H p = some (.lst (s.map V.int)) ∧ s.length = 3 ∧ DpAll K H0 us ds ∧ dom ds ∧
  ∀ d v s' H0' H', R ds d → AdvP p H0 H H0' H' s' → Dp K H0' v d → Q v H'
section
variable {K : PySem.W.Frag} {c : Cxt} {Γ : List Sl} {te ta tb : TE} {tr : TA} {i j : Nat} {P P2 : PyData → Prop} {d d1 : PyData} {ds : List PyData} {r : R2} {D : Ends} {s : List Int} {pin : Option Addr}
theorem spr_of {h H0 H : Hp} {σ : L2.St} {p : Addr} (hs : Spr Γ i) (x : Sat K h H0 σ H Γ) (ep : σ[i]? = some (some (.ref p))) : ∃ s : List Int, s.length = 3 ∧ h p = Option.none ∧ H0 p = Option.none ∧ H p = some (.lst (s.map V.int)) := by
  obtain ⟨s, pin, h3, e⟩ := hs
  obtain ⟨p', vs, e1, n1, n0, l, dd⟩ := x.getOwn e
  rw [ep] at e1
  cases e1
  rw [dps_intsV dd] at l
  exact ⟨s, h3, n1, n0, l⟩
theorem ex_of (hs : Spr Γ i) (h : EvD K te Γ d) (hp : P d) : EvX K te Γ i P := fun hh H0 σ H p x ep Q q => by
  obtain ⟨s, h3, _, n0, l⟩ := spr_of hs x ep
  exact h hh H0 σ H x _ fun v H1 H' a e => q v d s H1 H' hp (.of a n0 l h3) e
theorem ex_opR (hs : Spr Γ i) (ha : EvD K ta Γ d1) (hb : EvX K tb Γ i P2) (hr : ∀ d2, P2 d2 → ∃ d, P d ∧ RD K r d1 d2 d) : EvX K (tOp r ta tb) Γ i P := fun hh H0 σ H p x ep Q q => by
  obtain ⟨s, h3, _, n0, l⟩ := spr_of hs x ep
  refine ha hh H0 σ H x _ fun v H1 H' a1 e1 => hb hh H1 σ H' p (x.adv a1) ep _ fun w d2 s2 H2 H'' p2 a2 e2 => ?_
  obtain ⟨d, hd, rd⟩ := hr d2 p2
  refine rd H2 H'' v w a2.a.i (dp_mono a2.a.b _ _ e1) e2 Q fun z H3 H3' a3 e3 => ?_
  exact q z d s2 H3 H3' hd (((AdvP.of a1 n0 l h3).trans a2).trans (.of a3 a2.n a2.e a2.k)) e3
theorem ex_call {dom : List PyData → Prop} {R : List PyData → PyData → Prop} {E : XK} (hs : Spr Γ i) (h1 : EaD K tr Γ ds) (hd : dom ds) : EvX K (tCall (SprF K dom R) [] E (tCons (tVar i) tr)) Γ i (R ds) := fun hh H0 σ H p x ep Q q => by
  obtain ⟨s, h3, _, n0, l⟩ := spr_of hs x ep
  refine ⟨_, ep, h1 hh H0 σ H x _ fun vs H1 H' a e => ?_⟩
  show SprF K dom R ((.ref p :: vs) ++ []) H' Q E
  rw [List.append_nil]
  exact ⟨H1, p, s, vs, ds, rfl, a.i, a.n p n0 (by rw [l]; simp), a.s _ _ l, h3, e, hd, fun d v s' H0' H'' hR a2 e2 => q v d s' H0' H'' hR ((AdvP.of a n0 l h3).trans a2) e2⟩
theorem EvX.mono {P' : PyData → Prop} (h : EvX K te Γ i P) (k : ∀ d, P d → P' d) : EvX K te Γ i P' := fun hh H0 σ H p x ep Q q => h hh H0 σ H p x ep Q fun v d s H0' H' hp => q v d s H0' H' (k d hp)
/-! statements -/
theorem go_asgX (e : Γ[i]? = some (.own (rowsI s) pin)) (h3 : s.length = 3) (h : EvX K te Γ i P) (k : ∀ d s', P d → s'.length = 3 → Go K c ((Γ.set i (.own (rowsI s') pin)).set j (.d d)) D.nx) : Go K c Γ (tAsg te (gName j) D) := fun H0 σ H a x => by
  obtain ⟨p, vs, ep, n1, n0, l, dd⟩ := x.getOwn e
  exact h c.h H0 σ H p x ep _ fun v d s' H1 H' hp a1 e1 => k d s' hp a1.k H1 _ H' (a.spring a1 n1) ((x.spring e ep a1).setD e1)
def RetX (K : PySem.W.Frag) (c : Cxt) (rt : VK) (p : Addr) (P : PyData → Prop) : Prop := ∀ (d : PyData) (v : V) (s' : List Int) (H0' H' : Hp), P d → At c H0' H' → H0' p = none → H' p = some (.lst (s'.map V.int)) → s'.length = 3 → Dp K H0' v d → rt v H'
theorem go_retX {p : Addr} (e : Γ[i]? = some (.own (rowsI s) (some p))) (h : EvX K te Γ i P) (k : RetX K c D.rt p P) : Go K c Γ (tRet te D) := fun H0 σ H a x => by
  have ep := x.getPin e
  obtain ⟨p', vs, e1, n1, n0, l, dd⟩ := x.getOwn e
  rw [ep] at e1
  cases e1
  exact h c.h H0 σ H p x ep _ fun v d s' H1 H' hp a1 e1 => k d v s' H1 H' hp (a.spring a1 n1) a1.n a1.e a1.k e1
end
def startS (n : Nat) (p : Addr) (s : List Int) (ds : List PyData) : List Sl := .own (rowsI s) (some p) :: startG (n - 1) ds
theorem sat_startS {K : PySem.W.Frag} {H0 H : Hp} {N : List Str} {us : List V} {ds : List PyData} {p : Addr} {s : List Int} (i : Same H0 H) (n0 : H0 p = none) (e : H p = some (.lst (s.map V.int))) (hN : 0 < N.length) (hd : DpAll K H0 us ds) : Sat K (hid H p) H0 (L2.start N (.ref p :: us)) H (startS N.length p s ds) := by
  have h1 := sat_start (K := K) (h := hid H p) (N := N.tail) i hd
  have eσ : L2.start N (.ref p :: us) = some (.ref p) :: L2.start N.tail us := by
    unfold L2.start
    rw [List.map_cons, List.cons_append, List.length_cons, List.length_tail]
    congr 3
    omega
  have eG : startS N.length p s ds = .own (rowsI s) (some p) :: startG N.tail.length ds := by
    unfold startS
    rw [List.length_tail]
  rw [eσ, eG]
  refine ⟨i, by rw [List.length_cons, List.length_cons, h1.len], fun j t z => ?_, fun j k xs ys q p1 p2 e1 e2 _ _ => ?_⟩
  · cases j with
    | zero =>
      cases z
      exact ⟨_, rfl, p, _, rfl, hid_at, n0, e, dps_ints _, fun q z => Option.some.inj z⟩
    | succ j => exact h1.at_ j t (by simpa using z)
  · have none : ∀ {m : Nat} {xs : List PyData} {pn : Option Addr}, (startG N.tail.length ds)[m]? = some (.own xs pn) → False := fun {m xs pn} z => by
      unfold startG at z
      rw [List.getElem?_append] at z
      split at z
      · rw [List.getElem?_map] at z
        cases q : ds[m]? with
        | none => rw [q] at z; cases z
        | some d => rw [q] at z; cases z
      · rw [List.getElem?_replicate] at z
        split at z <;> cases z
    cases j with
    | zero =>
      cases k with
      | zero => rfl
      | succ k => exact (none (by simpa using e2)).elim
    | succ j => exact (none (by simpa using e1)).elim
section
variable {P : Program} {w : World} {K : PySem.W.Frag} {mg : Str → Option Value} {base : Heap}
theorem cal_spr {x : Str} {st : Stmt} {f : Addr} {fd : FuncData} {N ps : List Str} {k : Nat} {dom : List PyData → Prop} {R : List PyData → PyData → Prop} (F : C8.Def K mg x st f fd) (b : Binds K fd ps []) (S : FnScope N ps (C8.fnScope st)) (len : ∀ ds, dom ds → ds.length + 1 = ps.length) (hN : 0 < N.length)
    (hbody : ∀ (cdv : Value) (A : Around) (outer : List Env) (s : Shared) (H : Hp) (E : XK), Room k (A.deeper (envOfC x (C8.fnScope st) s.heap.objs.size f cdv)) → ∀ ds, dom ds →
      ∃ t, PSs (cxOf C8.CX0 P w K mg base N x (C8.fnScope st) f cdv A outer s H E).nox (C8.fnBody st) t ∧ ∀ c D p s, s.length = 3 → RetX K c D.rt p (R ds) → Go K c (startS N.length p s ds) (t D)) : C8.Cal P w K mg base (k + 1) x (SprF K dom R) [] := by
  refine C8.cal0 F b .nil S (fun vs H Q E h => ?_) (fun cdv A outer s H vs Q E hr h => ?_)
  · obtain ⟨H0, p, sp, us, ds, rfl, i, n0, e, h3, hd, hR, _⟩ := h
    rw [List.length_cons, dps_len hd]
    exact len ds hR
  · obtain ⟨H0, p, sp, us, ds, rfl, i, n0, e, h3, hd, hR, q⟩ := h
    obtain ⟨t, h1, h2⟩ := hbody cdv A outer s H E hr ds hR
    have st : At ⟨H0, H0, hid H p⟩ H0 H := ⟨Same.refl _, Same.refl _, i, fun b o (z : hid H p b = some o) => by
      by_cases hb : b = p
      · rw [hb, hid_at] at z; cases z
      · rw [hid_ne hb] at z; exact z, fun _ z _ => z⟩
    exact ⟨t, h1, h2 ⟨H0, H0, hid H p⟩ _ p sp h3 (fun d v s' H0' H' hP a n0' e' h3' dd => q d v s' H0' H' hP ⟨a.from, n0', e', h3'⟩ dd) H0 _ H st (sat_startS i n0 e hN hd)⟩
end
end Evr
set_option Elab.async false
namespace Evr
/-! the pats of the law -/
def amounts (p : Int) : List (Int × Int) := [-1, 0, 1].flatMap fun o => (intsTo 1 p).map fun a => (o, a)
def pats (p : Int) : List Rule := (amounts p).map (fun x => [x]) ++ (amounts p).flatMap fun x => (amounts p).filterMap fun y => if x.1 < y.1 then some [x, y] else none
theorem amount_in {p o a : Int} (h : o = -1 ∨ o = 0 ∨ o = 1) (h1 : 1 ≤ a) (h2 : a ≤ p - 1) : (o, a) ∈ amounts p := by
  unfold amounts
  rw [List.mem_flatMap]
  refine ⟨o, by simpa using h, List.mem_map.mpr ⟨a, ?_, rfl⟩⟩
  unfold intsTo
  exact List.mem_map.mpr ⟨(a - 1).toNat, List.mem_range.mpr (by omega), by omega⟩
theorem pat_one {p : Int} {x : Int × Int} (h : x ∈ amounts p) : [x] ∈ pats p := List.mem_append_left _ (List.mem_map.mpr ⟨x, h, rfl⟩)
theorem pat_two {p : Int} {x y : Int × Int} (h : x ∈ amounts p) (h' : y ∈ amounts p) (hl : x.1 < y.1) : [x, y] ∈ pats p :=
  List.mem_append_right _ (List.mem_flatMap.mpr ⟨x, h, List.mem_filterMap.mpr ⟨y, h', if_pos hl⟩⟩)
end Evr
set_option Elab.async false
set_option linter.all false
set_option maxRecDepth 100000
set_option maxHeartbeats 4000000
namespace Evr
open PySem PySem.Spec PyProof.Rows L2
section
variable {P : Program} {w : World} {K : PySem.W.Frag} {mg : Str → Option Value} {base : Heap} {f : Addr} {fd : FuncData}
/-! _law_spring -/
def R_spring : List PyData → List PyData → Prop := fun ds es => ∃ (z : Int) (s : List Int), ds = [.int z] ∧ s.length = 3 ∧ s = [if 10 ^ 18 ≤ z then z - 10 ^ 18 else 0, (z * 3202034522624059733 + 88172645463325252) % 2305843009213693951, 0] ∧ es = rowsI s
theorem sc_spring : FnScope ["_law_cell", "_law_rest"] ["_law_cell"] (C8.fnScope s__law_spring) := C8.fnScope_by (by decide +kernel)
theorem ok_spring (T : Txt K mg) (F : C8.Def K mg "_law_spring" s__law_spring f fd) (b : Binds K fd ["_law_cell"] []) : C8.Cal P w K mg base 1 "_law_spring" (NewF K R_spring) [] := by
  refine cal_new F b sc_spring (fun ds r h => ?_) (fun cdv A outer s H E hr ds r h => ?_)
  · obtain ⟨_, _, rfl, _⟩ := h; rfl
  obtain ⟨z, sp, rfl, h3, hsp, rfl⟩ := h
  refine ⟨_, pss_cons (ps_set (i := 1) sc_spring.nd rfl (.inl rfl) (pe_ifExp (pt_cmpR op_ge (pv 0) (pe_op op_pow pe_int pe_int) (nomark _)) (pe_op op_sub (pv 0) (pe_op op_pow pe_int pe_int)) pe_int))
    (pss_one (ps_ret (pe_lst (pa_cons (pv 1) (pa_cons (pe_op op_mod (pe_callTy (r := rIntQ) call_int1 (by rfl) T.int_ (by decide +kernel) (pa_cons (pe_op op_add (pe_op op_mul (pv 0) pe_int) pe_int) pa_nil)) pe_int) (pa_cons pe_int pa_nil)))))), fun c D k => ?_⟩
  have pw : ∀ {Γ : List Sl}, EvD K (tOp (rI CPow fun i j => .int (i ^ j.toNat)) (tC (.int 10)) (tC (.int 18))) Γ (.int (10 ^ 18)) := fun {Γ} => (ed_i (C := CPow) (g := fun i j => i ^ j.toNat) ed_int ed_int ⟨by decide, by decide, by decide⟩).is rfl
  refine go_seq (go_asg (d := .int (if 10 ^ 18 ≤ z then z - 10 ^ 18 else 0)) (ed_if (b := decide (10 ^ 18 ≤ z)) (et_test (ed_ib (g := fun i j => decide (j ≤ i)) (ed_var rfl) pw)) (fun q => (ed_i0 (ed_var rfl) pw).is ?_) (fun q => ed_int.is ?_)) ?_)
  · rw [if_pos (of_decide_eq_true q)]
  · rw [if_neg (of_decide_eq_false q)]
  refine go_retN (EvN.is (en_lst (ea_cons (ed_var rfl) (ea_cons (ed_i (C := fun _ j => 0 < j) (g := fun i j => i % j) (ed_cb1 (ed_i0 (ed_i (ed_var rfl) ed_int (.inr ⟨by decide, by decide⟩)) ed_int) rc_int) ed_int (by decide)) (ea_cons ed_int ea_nil))) (by simp)) ?_) k
  rw [hsp]
  rfl
/-! _law_take -/
def dom_take : List PyData → Prop := fun ds => ∃ n : Int, ds = [.int n] ∧ 1 ≤ n ∧ n ≤ 64
def R_take : List PyData → PyData → Prop := fun ds d => ∃ n t : Int, ds = [.int n] ∧ d = .int t ∧ 0 ≤ t ∧ t < n
abbrev N_take : List Str := ["_law_spring_here", "_law_count", "_law_digit", "_law_mixed_here"]
theorem sc_take : FnScope N_take ["_law_spring_here", "_law_count"] (C8.fnScope s__law_take) := C8.fnScope_by (by decide +kernel)
theorem ok_take (T : Txt K mg) (F : C8.Def K mg "_law_take" s__law_take f fd) (b : Binds K fd ["_law_spring_here", "_law_count"] []) : C8.Cal P w K mg base 1 "_law_take" (SprF K dom_take R_take) [] := by
  refine cal_spr F b sc_take (fun ds h => ?_) (by decide) (fun cdv A outer s H E hr ds h => ?_)
  · obtain ⟨_, rfl, _⟩ := h; rfl
  obtain ⟨n, rfl, hn, hn2⟩ := h
  refine ⟨_, pss_cons (ps_if (pt_cmpR op_gt (pe_ix ix_list (pv 0) pe_int (fun _ _ => rfl)) pe_int (nomark _)) (pss_cons (ps_set (i := 2) sc_take.nd rfl (.inl rfl) (pe_op op_mod (pe_callTy (r := rIntQ) call_int1 (by rfl) T.int_ (by decide +kernel) (pa_cons (pe_ix ix_list (pv 0) pe_int (fun _ _ => rfl)) pa_nil)) (pv 1)))
      (pss_cons (ps_asg (pe_op op_fdiv (pe_ix ix_list (pv 0) pe_int (fun _ _ => rfl)) (pv 1)) (pg_sub (pv 0) pe_int set_list)) (pss_one (ps_ret (pv 2))))) pss_nil)
    (pss_cons (ps_asg (pe_op op_add (pe_ix ix_list (pv 0) pe_int (fun _ _ => rfl)) pe_int) (pg_sub (pv 0) pe_int set_list))
    (pss_cons (ps_set (i := 3) sc_take.nd rfl (.inl rfl) (pe_op op_mod (pe_callTy (r := rIntQ) call_int1 (by rfl) T.int_ (by decide +kernel) (pa_cons (pe_op op_add (pe_ix ix_list (pv 0) pe_int (fun _ _ => rfl)) (pe_op op_mul pe_int (pe_ix ix_list (pv 0) pe_int (fun _ _ => rfl)))) pa_nil)) pe_int))
    (pss_cons (ps_set (i := 3) sc_take.nd rfl (.inl rfl) (pe_op op_add (pe_op op_add (pe_op op_mul (pv 3) (pv 3)) (pe_op op_mul pe_int (pv 3))) (pe_ix ix_list (pv 0) pe_int (fun _ _ => rfl))))
    (pss_cons (ps_set (i := 3) sc_take.nd rfl (.inl rfl) (pe_op op_mod (pe_callTy (r := rIntQ) call_int1 (by rfl) T.int_ (by decide +kernel) (pa_cons (pv 3) pa_nil)) pe_int))
    (pss_cons (ps_set (i := 3) sc_take.nd rfl (.inl rfl) (pe_op op_mod (pe_callTy (r := rIntQ) call_int1 (by rfl) T.int_ (by decide +kernel) (pa_cons (pe_op op_add (pe_op op_pow (pe_op op_fdivW (pv 3) pe_int) pe_int) (pv 3)) pa_nil)) pe_int))
    (pss_one (ps_ret (pe_op op_mod (pe_callTy (r := rIntQ) call_int1 (by rfl) T.int_ (by decide +kernel) (pa_cons (pe_op op_fdiv (pv 3) pe_int) pa_nil)) (pv 1))))))))), fun c D p sp h3 k => ?_⟩
  match sp, h3 with
  | [s0, s1, s2], _ =>
  have rd : ∀ {t0 t1 t2 : Int} {d1 d2 d3 : Sl}, True := fun {_ _ _ _ _ _} => trivial
  refine go_seq (go_if (b := decide (0 < s0)) (et_test (ed_ib (g := fun i j => decide (j < i)) (i := s0) (j := 0) (ed_ixOwn (xs := rowsI [s0, s1, s2]) (d := .int s0) rfl ed_int rfl) ed_int)) (fun _ => ?_) (fun _ => go_next ?_))
  · refine go_seq (go_asg (d := .int (s0 % n)) (ed_i (C := fun _ j => 0 < j) (g := fun i j => i % j) (ed_cb1 (ed_ixOwn (xs := rowsI [s0, s1, s2]) (d := .int s0) rfl ed_int rfl) rc_int) (ed_var rfl) (by omega)) ?_)
    dsimp only
    refine go_seq (go_setix (xs := rowsI [s0, s1, s2]) (pin := some p) (z := 0) (d := .int (s0 / n)) rfl (ed_i (C := CDiv) (g := fun i j => i / j) (ed_ixOwn (xs := rowsI [s0, s1, s2]) (d := .int s0) rfl ed_int rfl) (ed_var rfl) ⟨by omega, by omega⟩) ed_int (by decide) (show 0 < 3 by decide) ?_)
    exact go_retX (i := 0) (s := [s0 / n, s1, s2]) rfl (ex_of ⟨[s0 / n, s1, s2], some p, rfl, rfl⟩ (ed_var (i := 2) rfl) ⟨n, s0 % n, rfl, rfl, Int.emod_nonneg _ (by omega), Int.emod_lt_of_pos _ (by omega)⟩) k
  refine go_seq (go_setix (xs := rowsI [s0, s1, s2]) (pin := some p) (z := 2) (d := .int (s2 + 1)) rfl (ed_i0 (ed_ixOwn (xs := rowsI [s0, s1, s2]) (d := .int s2) rfl ed_int rfl) ed_int) ed_int (by decide) (show 2 < 3 by decide) ?_)
  dsimp only
  change Go K c [.own (rowsI [s0, s1, s2 + 1]) (some p), .d (.int n), .no, .no] _
  generalize s2 + 1 = s3
  have m1 : 0 ≤ (s1 + 11400714819323198485 * s3) % 18446744073709551616 := Int.emod_nonneg _ (by decide)
  have m2 : (s1 + 11400714819323198485 * s3) % 18446744073709551616 < 18446744073709551616 := Int.emod_lt_of_pos _ (by decide)
  refine go_seq (go_asg (d := .int ((s1 + 11400714819323198485 * s3) % 18446744073709551616)) (ed_i (C := fun _ j => 0 < j) (g := fun i j => i % j) (ed_cb1 (ed_i0 (ed_ixOwn (xs := rowsI [s0, s1, s3]) (d := .int s1) rfl ed_int rfl) (ed_i (C := CMul) (g := fun i j => i * j) ed_int (ed_ixOwn (xs := rowsI [s0, s1, s3]) (d := .int s3) rfl ed_int rfl) (.inl ⟨by decide, by decide⟩))) rc_int) ed_int (by decide)) ?_)
  generalize (s1 + 11400714819323198485 * s3) % 18446744073709551616 = m at m1 m2
  dsimp only
  refine go_seq (go_asg (d := .int (m * m + 7046029254386353131 * m + s3)) (ed_i0 (ed_i0 (ed_i (C := CMul) (g := fun i j => i * j) (ed_var rfl) (ed_var rfl) (.inl ⟨by omega, by show m < 18446744073709551616; omega⟩)) (ed_i (C := CMul) (g := fun i j => i * j) ed_int (ed_var rfl) (.inl ⟨by decide, by decide⟩))) (ed_ixOwn (xs := rowsI [s0, s1, s3]) (d := .int s3) rfl ed_int rfl)) ?_)
  generalize m * m + 7046029254386353131 * m + s3 = m'
  dsimp only
  refine go_seq (go_asg (d := .int (m' % 340282366920938463463)) (ed_i (C := fun _ j => 0 < j) (g := fun i j => i % j) (ed_cb1 (ed_var rfl) rc_int) ed_int (by decide)) ?_)
  have n1 : 0 ≤ m' % 340282366920938463463 := Int.emod_nonneg _ (by decide)
  have n2 : m' % 340282366920938463463 < 340282366920938463463 := Int.emod_lt_of_pos _ (by decide)
  generalize m' % 340282366920938463463 = m'' at n1 n2
  have q1 : 0 ≤ m'' / 4294967296 := Int.ediv_nonneg n1 (by decide)
  have q2 : m'' / 4294967296 < 18446744073709551616 := by omega
  dsimp only
  refine go_seq (go_asg (ed_i (C := fun _ j => 0 < j) (g := fun i j => i % j) (ed_cb1 (ed_i0 (ed_i (C := CPow) (g := fun i j => i ^ j.toNat) (ed_i (C := CDivW) (g := fun i j => i / j) (ed_var rfl) ed_int ⟨by decide, by decide⟩) ed_int ⟨by decide, by decide, by show (m'' / 4294967296).natAbs < 18446744073709551616; omega⟩) (ed_var rfl)) rc_int) ed_int (by decide)) ?_)
  generalize ((m'' / 4294967296) ^ (2 : Int).toNat + m'') % 1180591620717411303389 = x
  refine go_retX (i := 0) (s := [s0, s1, s3]) (P := R_take [.int n]) rfl (ex_of ⟨[s0, s1, s3], some p, rfl, rfl⟩ (d := .int (x / 65536 % n)) (ed_i (C := fun _ j => 0 < j) (g := fun i j => i % j) (ed_cb1 (ed_i (C := CDiv) (g := fun i j => i / j) (ed_var (i := 3) rfl) ed_int ⟨by decide, by decide⟩) rc_int) (ed_var (i := 1) rfl) (by omega)) ⟨n, x / 65536 % n, rfl, rfl, Int.emod_nonneg _ (by omega), Int.emod_lt_of_pos _ (by omega)⟩) k
end
end Evr
set_option Elab.async false
set_option linter.all false
set_option maxRecDepth 100000
set_option maxHeartbeats 4000000
/-! More rules for expressions that write the spring. -/
namespace Evr
open PySem PySem.Spec PyProof.Rows L2
section
variable {p D : Addr} {H0 H G H' : Hp} {s : List Int} {o : HO}
theorem AdvP.write (x : AdvP p H0 H G H' s) (n1 : H D = none) (n0 : G D = none) (ne : D ≠ p) : AdvP p H0 H G (upd H' D o) s :=
  ⟨x.a.write (by rw [hid_ne ne]; exact n1) n0, x.n, by rw [upd_ne (Ne.symm ne)]; exact x.e, x.k⟩
theorem AdvP.hide (x : AdvP p H0 H G H' s) (n1 : H D = none) (n0 : G D = none) (ne : D ≠ p) : AdvP p H0 H G (hid H' D) s :=
  ⟨x.a.hid (by rw [hid_ne ne]; exact n1) n0, x.n, by rw [hid_ne (Ne.symm ne)]; exact x.e, x.k⟩
theorem AdvP.keep (x : AdvP p H0 H G H' s) (n0 : H0 D = none) (e : H D = some o) (ne : D ≠ p) : G D = none ∧ H' D = some o := ⟨x.a.n D n0 (by rw [hid_ne ne, e]; simp), x.a.s D o (by rw [hid_ne ne]; exact e)⟩
theorem AdvP.pure {H1 H2 : Hp} (x : AdvP p H0 H G H' s) (y : Adv G H' H1 H2) : AdvP p H0 H H1 H2 s := x.trans (.of y x.n x.e x.k)
end
theorem wipe_out {σ : L2.St} {i : Nat} : ∀ {vs : List Nat}, i ∉ vs → (L2.wipe σ vs)[i]? = σ[i]?
  | [], _ => rfl
  | v :: vs, h => by
    show ((L2.wipe σ vs).set v none)[i]? = _
    rw [List.getElem?_set_ne (fun z => h (by rw [z]; exact List.mem_cons_self))]
    exact wipe_out fun z => h (List.mem_cons_of_mem _ z)
def EvXN (K : PySem.W.Frag) (te : TE) (Γ : List Sl) (i : Nat) (PN : List PyData → Prop) : Prop := ∀ h H0 σ H p, Sat K h H0 σ H Γ → σ[i]? = some (some (.ref p)) → ∀ Q : VK, (∀ q vs es s H0' H1, PN es → AdvP p H0 H H0' H1 s → H1 q = none → DpAll K H0' vs es → Q (.ref q) (upd H1 q (.lst vs))) → te σ H Q
def EtX (K : PySem.W.Frag) (tt : TT) (Γ : List Sl) (i : Nat) : Prop := ∀ h H0 σ H p, Sat K h H0 σ H Γ → σ[i]? = some (some (.ref p)) → ∀ Q : Bool → Hp → Prop, (∀ b s H0' H', AdvP p H0 H H0' H' s → Q b H') → tt σ H Q
def itC (n : Nat) : TI := fun _ H R => R (Itr 0 n) H
section
variable {K : PySem.W.Frag} {c : Cxt} {Γ : List Sl} {te ta tb : TE} {tt : TT} {i j l : Nat} {P P2 : PyData → Prop} {PN : List PyData → Prop} {d d1 : PyData} {ds es : List PyData} {D : Ends} {s : List Int} {pin : Option Addr} {g : TG} {wi : TI} {vs : List Nat} {tu tw : TS}
theorem it_c {n : Nat} : ItD K (itC n) Γ (rangeD 0 n) := fun _ H0 _ H x _ k => k _ H0 H (Adv.refl x.i) walkd_range
theorem ex_tup2 (hs : Spr Γ i) (ha : EvD K ta Γ d1) (hb : EvX K tb Γ i P2) : EvX K (tTup (tCons ta (tCons tb tNil))) Γ i (fun d => ∃ d2, P2 d2 ∧ d = .tuple [d1, d2]) := fun hh H0 σ H p x ep Q q => by
  obtain ⟨s, h3, _, n0, l⟩ := spr_of hs x ep
  refine ha hh H0 σ H x _ fun v H1 H' a1 e1 => hb hh H1 σ H' p (x.adv a1) ep _ fun w d2 s2 H2 H'' p2 a2 e2 => ⟨show 2 ≤ sizeLine by decide, fun T hT => ?_⟩
  have z := adv_tup (K := K) (Adv.refl a2.a.i) hT (.cons (dp_mono a2.a.b _ _ e1) (.cons e2 .nil))
  exact q _ _ s2 _ _ ⟨d2, p2, rfl⟩ (((AdvP.of a1 n0 l h3).trans a2).pure z.1) z.2
theorem ex_eq (hs : Spr Γ i) (ha : EvX K ta Γ i P) (hP : ∀ d, P d → ∃ n : Int, d = .int n) {m : Int} : EtX K (tTest (tOp rEq ta (tC (.int m)))) Γ i := fun hh H0 σ H p x ep Q q =>
  ha hh H0 σ H p x ep _ fun v d s H1 H' hp a e => by
    obtain ⟨n, rfl⟩ := hP d hp
    rw [dp_int e]
    exact ⟨rfl, decide (V.int n = V.int m), rfl, q _ s H1 H' a⟩
/-- [e for target in iter], e writes the spring -/
theorem ex_lc {Pe : PyData → PyData → Prop} (e : Γ[i]? = some (.own (rowsI s) pin)) (h3 : s.length = 3) (hi : i ∉ vs) (hit : ItD K wi Γ ds) (hl : ds.length ≤ 1000)
    (hs : ∀ (j : Nat) d, ds[j]? = some d → ∀ s' : List Int, s'.length = 3 → ∃ Γ2, TgW K g vs d (wipeG (Γ.set i (.own (rowsI s') pin)) vs) Γ2 ∧ EtD K tt Γ2 true ∧ EvX K te Γ2 i (Pe d)) :
    EvXN K (tLc wi g tt te vs) Γ i (fun es => es.length = ds.length ∧ ∀ (j : Nat) d y, ds[j]? = some d → es[j]? = some y → Pe d y) := fun hh H0 σ Hs p x ep Q q => hit hh H0 σ Hs x _ fun J Hf H1 a w D hD => by
  obtain ⟨s0, h30, nh, n0, l0⟩ := spr_of ⟨s, pin, h3, e⟩ x ep
  have l1 := a.s _ _ l0
  have nf : Hf p = none := a.n p n0 (by rw [l0]; simp)
  have neD : D ≠ p := fun z => by rw [z, l1] at hD; cases hD
  have st : AdvP p Hf H1 Hf (upd H1 D (.lst [])) s0 := (AdvP.of (Adv.refl a.i) nf l1 h30).write hD (a.i.free hD) neD
  refine ⟨fun i m H => m = ds.length - i ∧ i ≤ ds.length ∧ ∃ G0 us es s', AdvP p Hf H1 G0 H s' ∧ G0 D = none ∧ H D = some (.lst us) ∧ DpAll K G0 us es ∧ es.length = i ∧ ∀ (j : Nat) d y, ds[j]? = some d → es[j]? = some y → Pe d y, ⟨_, rfl, Nat.zero_le _, Hf, [], [], s0, st, a.i.free hD, upd_same, .nil, rfl, fun j d y _ z => by simp at z⟩, ?_⟩
  rintro j m H ⟨rfl, hle, G0, us, es, s', aH, nD, eD, dd, hel, hrel⟩
  by_cases hlt : j < ds.length
  · refine .inr ⟨w.go j H hlt (aH.a.b.trans aH.a.i), fun H' => j + 1 ≤ ds.length ∧ ∃ G0 us es s', AdvP p Hf H1 G0 H' s' ∧ G0 D = none ∧ H' D = some (.lst us) ∧ DpAll K G0 us es ∧ es.length = j + 1 ∧ ∀ (k : Nat) d y, ds[k]? = some d → es[k]? = some y → Pe d y, fun H' p => ⟨_, by omega, rfl, p.1, p.2⟩, fun v H' y => ?_⟩
    obtain ⟨d, ed, kk⟩ := w.yld j H v H' hlt (aH.a.b.trans aH.a.i) y
    obtain ⟨G1, a1, e1⟩ := kk G0 aH.a.b aH.a.i
    have aP := aH.pure a1
    have x1 : Sat K hh G1 (wipe σ vs) H' (wipeG (Γ.set i (.own (rowsI s') pin)) vs) := ((x.adv a).spring e ep aP).wipe vs
    obtain ⟨Γ2, tg, ht, he⟩ := hs j d ed s' aP.k
    refine tg hh G1 _ H' v x1 e1 _ fun σ' w1 x2 => ⟨w1.trans wipe_wipe, ?_⟩
    refine ht hh G1 σ' H' x2 _ fun G2 H2 a2 => ?_
    show te σ' H2 _
    have ep' : σ'[i]? = some (some (.ref p)) := by
      rw [← wipe_out (σ := σ') hi, w1, wipe_out hi, wipe_out hi]
      exact ep
    refine he hh G2 σ' H2 p (x2.adv a2) ep' _ fun u e' s'' G3 H3 hp a3 e3 => ?_
    have k2 := (a1.trans a2).keep nD eD
    have k3 := a3.keep k2.1 k2.2 neD
    have aF := (aP.pure a2).trans a3
    refine ⟨us, k3.2, Nat.lt_of_lt_of_le (show us.length < 100000 by rw [dps_len dd, hel]; omega) (show 100000 ≤ sizeLine by decide), hlt, G3, _, es ++ [e'], s'', aF.write hD k3.1 neD, k3.1, upd_same, dps_snoc (dps_mono (a1.b.trans (a2.b.trans a3.a.b)) _ _ dd) e3, by rw [List.length_append, hel]; rfl, fun k dk y hk hy => ?_⟩
    by_cases hkj : k < es.length
    · rw [List.getElem?_append_left hkj] at hy
      exact hrel k dk y hk hy
    · have ek : k = es.length := by
        have := (List.getElem?_eq_some_iff.mp hy).1
        rw [List.length_append] at this
        have h1 : k < es.length + 1 := this
        omega
      subst ek
      rw [List.getElem?_append_right (Nat.le_refl _), Nat.sub_self] at hy
      cases hy
      rw [hel, ed] at hk
      cases hk
      exact hp
  · have ej : j = ds.length := by omega
    subst ej
    refine .inl ⟨w.stop H (aH.a.b.trans aH.a.i), ?_⟩
    have z := q D us es s' G0 (hid H D) ⟨hel, hrel⟩ ((AdvP.of a n0 l0 h30).trans (aH.hide hD nD neD)) hid_at dd
    rw [hid_back eD] at z
    exact z
/-- the iterator range(e), e writes the spring -/
theorem ex_lcR (e : Γ[i]? = some (.own (rowsI s) pin)) (h3 : s.length = 3) (h : EvX K ta Γ i P) (hP : ∀ d, P d → ∃ n : Int, d = .int n ∧ 0 ≤ n ∧ n ≤ 1000)
    (k : ∀ (n : Int) s', P (.int n) → s'.length = 3 → EvXN K (tLc (itC n.toNat) g tt te vs) (Γ.set i (.own (rowsI s') pin)) i PN) : EvXN K (tLc (iRng1 (tCons ta tNil)) g tt te vs) Γ i PN := fun hh H0 σ H p x ep Q q =>
  h hh H0 σ H p x ep _ fun v d s' H1 H' hp a e1 => by
    obtain ⟨n, rfl, hn, hn2⟩ := hP d hp
    rw [dp_int e1]
    refine ⟨n, rfl, by omega, by omega, ?_⟩
    exact k n s' hp a.k hh H1 σ H' p (x.spring e ep a) ep Q fun r vs es s'' H2 H2' hpn a2 n2 dd => q r vs es s'' H2 H2' hpn (a.trans a2) n2 dd
theorem ex_tupN (h : EvXN K te Γ i PN) : EvX K (tCB (rTupQ K) (tCons te tNil)) Γ i (fun d => ∃ es, PN es ∧ d = .tuple es) := fun hh H0 σ H p x ep Q q =>
  h hh H0 σ H p x ep _ fun r vs es s H1 H' hpn a n dd => by
    have z := adv_list (K := K) (Adv.refl a.a.i) n dd
    refine ⟨r, vs, rfl, .inl ⟨SqL.of upd_same, fun T hT => ?_⟩⟩
    have z2 := adv_tup (K := K) z.1 hT (dps_mono (same_new (a.a.i.free n)) _ _ dd)
    exact q _ _ s _ _ ⟨es, hpn, rfl⟩ (a.pure z2.1) z2.2
theorem go_asgXN (e : Γ[i]? = some (.own (rowsI s) pin)) (h3 : s.length = 3) (h : EvXN K te Γ i PN) (k : ∀ es s', PN es → s'.length = 3 → Go K c ((Γ.set i (.own (rowsI s') pin)).set j (.own es)) D.nx) : Go K c Γ (tAsg te (gName j) D) := fun H0 σ H a x => by
  obtain ⟨p, vs, ep, n1, n0, l, dd⟩ := x.getOwn e
  refine h c.h H0 σ H p x ep _ fun r vs es s' H1 H' hpn a1 n e1 => ?_
  have at1 := a.spring a1 n1
  have nh : c.h r = none := at1.s.free n
  exact k es s' hpn a1.k H1 _ _ (at1.write nh (a1.a.i.free n)) ((x.spring e ep a1).setOwn n nh e1)
theorem go_ifX (e : Γ[i]? = some (.own (rowsI s) pin)) (h3 : s.length = 3) (h : EtX K tt Γ i) (h1 : ∀ s' : List Int, s'.length = 3 → Go K c (Γ.set i (.own (rowsI s') pin)) (tu D)) (h2 : ∀ s' : List Int, s'.length = 3 → Go K c (Γ.set i (.own (rowsI s') pin)) (tw D)) : Go K c Γ (tIfS tt tu tw D) := fun H0 σ H a x => by
  obtain ⟨p, vs, ep, n1, n0, l, dd⟩ := x.getOwn e
  refine h c.h H0 σ H p x ep _ fun b s' H1 H' a1 => ?_
  cases b with
  | true =>
    show tu D σ H'
    exact h1 s' a1.k H1 σ H' (a.spring a1 n1) (x.spring e ep a1)
  | false =>
    show tw D σ H'
    exact h2 s' a1.k H1 σ H' (a.spring a1 n1) (x.spring e ep a1)
theorem go_forR (e : Γ[i]? = some (.own (rowsI s) pin)) (h3 : s.length = 3) (h : EvX K ta Γ i P) (hP : ∀ d, P d → ∃ n : Int, d = .int n ∧ 0 ≤ n ∧ n ≤ 1000)
    (k : ∀ (n : Int) s', P (.int n) → s'.length = 3 → Go K c (Γ.set i (.own (rowsI s') pin)) (tFor (itC n.toNat) g tu D)) : Go K c Γ (tFor (iRng1 (tCons ta tNil)) g tu D) := fun H0 σ H a x => by
  obtain ⟨p, vs, ep, n1, n0, l, dd⟩ := x.getOwn e
  refine h c.h H0 σ H p x ep _ fun v d s' H1 H' hp a1 e1 => ?_
  obtain ⟨n, rfl, hn, hn2⟩ := hP d hp
  rw [dp_int e1]
  refine ⟨n, rfl, by omega, by omega, ?_⟩
  exact k n s' hp a1.k H1 σ H' (a.spring a1 n1) (x.spring e ep a1)
/-- two new lists at once -/
theorem go_parOwn {es1 es2 : List PyData} (h1 : EvN K ta Γ es1) (h2 : EvN K tb Γ es2) (k : Go K c ((Γ.set i (.own es1)).set j (.own es2)) D.nx) : Go K c Γ (tPar i j (tCons ta (tCons tb tNil)) D) := fun H0 σ H a x =>
  h1 c.h H0 σ H x _ fun p1 vs1 H1 H' a1 m1 d1 => by
    have nh1 : c.h p1 = none := (a.adv a1).s.free m1
    have n01 := a1.i.free m1
    have nH : H p1 = none := a1.s.free m1
    have x1 := (x.adv a1).setOwn (i := i) m1 nh1 d1
    have at1 := (a.adv a1).write (o := .lst vs1) nh1 n01
    refine h2 c.h H1 σ _ (x.adv (a1.write nH n01)) _ fun p2 vs2 H2 H'' a2 m2 d2 => ?_
    have nh2 : c.h p2 = none := (at1.adv a2).s.free m2
    exact ⟨_, _, rfl, k H2 _ _ ((at1.adv a2).write nh2 (a2.i.free m2)) ((x1.adv a2).setOwn m2 nh2 d2)⟩
/-- ys.append(xs.pop(e)), e writes the spring -/
theorem go_popApp {xs ys : List PyData} (hij : i ≠ j) (hil : i ≠ l) (hjl : j ≠ l) (e : Γ[i]? = some (.own (rowsI s) pin)) (h3 : s.length = 3) (ex : Γ[l]? = some (.own xs)) (ey : Γ[j]? = some (.own ys)) (hxl : xs.length < 1000) (hyl : ys.length < 1000)
    (h : EvX K te Γ i P) (hP : ∀ d, P d → ∃ t : Nat, d = .int (t : Int) ∧ t < xs.length)
    (k : ∀ (t : Nat) y s', P (.int (t : Int)) → xs[t]? = some y → s'.length = 3 → Go K c (((Γ.set i (.own (rowsI s') pin)).set l (.own (xs.eraseIdx t))).set j (.own (ys ++ [y]))) D.nx) :
    Go K c Γ (tDrop (tBM K "list" rAppend (tVar j) (tCons (tBM K "list" rPopAt (tVar l) (tCons te tNil)) tNil)) D) := fun H0 σ H a x => by
  obtain ⟨p, vs, ep, n1, n0, l0, dd⟩ := x.getOwn e
  obtain ⟨px, vx, ex1, nx1, nx0, lx, ddx⟩ := x.getOwn ex
  obtain ⟨py, vy, ey1, ny1, ny0, ly, ddy⟩ := x.getOwn ey
  have npx : px ≠ p := fun z => by
    rw [z] at ex1
    exact hil (x.sep i l _ _ p e ex ep ex1)
  have npy : py ≠ p := fun z => by
    rw [z] at ey1
    exact hij (x.sep i j _ _ p e ey ep ey1)
  have nxy : py ≠ px := fun z => by
    rw [z] at ey1
    exact hjl (x.sep j l _ _ px ey ex ey1 ex1)
  refine ⟨_, ey1, .inl ⟨rfl, vy, SqL.of ly⟩, ⟨_, ex1, .inl ⟨rfl, vx, SqL.of lx⟩, ?_⟩⟩
  refine h c.h H0 σ H p x ep _ fun v d s' H1 H' hp a1 e1 => ?_
  obtain ⟨t, rfl, ht⟩ := hP d hp
  rw [dp_int e1]
  have kx := a1.keep nx0 lx npx
  have ky := a1.keep ny0 ly npy
  have htv : t < vx.length := by rw [dps_len ddx]; exact ht
  have hix : seqIndex? (t : Int) vx.length = some t := (ixN_seq (ixN_nat htv)).1
  refine ⟨px, vx, (t : Int), t, vx[t], rfl, rfl, kx.2, by have := dps_len ddx; omega, by have := dps_len ddx; omega, hix, List.getElem?_eq_getElem htv, ?_⟩
  refine ⟨py, vy, vx[t], rfl, rfl, by rw [upd_ne nxy]; exact ky.2, Nat.lt_of_lt_of_le (show vy.length < 100000 by rw [dps_len ddy]; omega) (show 100000 ≤ sizeLine by decide), ?_⟩
  have ddx1 := dps_mono a1.a.b _ _ ddx
  obtain ⟨y, hy, dy⟩ := dps_getV ddx1 (List.getElem?_eq_getElem htv)
  have x1 := x.spring e ep a1
  have ex' : (Γ.set i (.own (rowsI s') pin))[l]? = some (.own xs) := by rw [List.getElem?_set_ne hil]; exact ex
  have x2 := x1.write (ys := xs.eraseIdx t) ex' ex1 (dps_erase t ddx1)
  have ey' : ((Γ.set i (.own (rowsI s') pin)).set l (.own (xs.eraseIdx t)))[j]? = some (.own ys) := by rw [List.getElem?_set_ne (Ne.symm hjl), List.getElem?_set_ne hij]; exact ey
  have x3 := x2.write (ys := ys ++ [y]) ey' ey1 (dps_snoc (dps_mono a1.a.b _ _ ddy) dy)
  exact k t y s' hp hy a1.k H1 σ _ (((a.spring a1 n1).write nx1 kx.1).write ny1 ky.1) x3
theorem en_sorted {ns : List Int} (h : EvD K te Γ (.list (rowsI ns))) (hl : ns.length < 64) (nd : ns.Nodup) : EvN K (tCB (rSorted K) (tCons te tNil)) Γ (rowsI (sortU ns)) := fun hh H0 σ H x Q q =>
  h hh H0 σ H x _ fun v H1 H' a e => by
    obtain ⟨l, xs, rfl, hs, ha⟩ := dp_lst e
    rw [dps_intsV ha] at hs
    refine ⟨l, ns, rfl, a.i.seq hs, hl, fun ms r pm pw hr => ?_⟩
    have e : ms = sortU ns := ascI_uniq (fun k => by rw [pm.mem_iff, sortU_mem]) (List.Pairwise.imp (fun {a b} h => by omega) (List.Pairwise.and pw (pm.nodup_iff.mpr nd))) (sortU_asc ns)
    subst e
    exact q r _ _ _ a hr (dps_ints _)
end
end Evr
set_option Elab.async false
set_option linter.all false
set_option maxRecDepth 100000
set_option maxHeartbeats 4000000
namespace Evr
open PySem PySem.Spec PyProof.Rows L2
def primeP (p : Int) : Prop := p = 2 ∨ p = 3 ∨ p = 5
section
variable {P : Program} {w : World} {K : PySem.W.Frag} {mg : Str → Option Value} {base : Heap} {f : Addr} {fd : FuncData}
/-! _law_base -/
def dom_base : List PyData → Prop := fun ds => ds = []
def R_base : List PyData → PyData → Prop := fun _ d => ∃ p, primeP p ∧ d = .int p
theorem sc_base : FnScope ["_law_spring_here"] ["_law_spring_here"] (C8.fnScope s__law_base) := C8.fnScope_by (by decide +kernel)
theorem ok_base (F : C8.Def K mg "_law_base" s__law_base f fd) (b : Binds K fd ["_law_spring_here"] []) (c_take : C8.Cal P w K mg base 1 "_law_take" (SprF K dom_take R_take) []) : C8.Cal P w K mg base 2 "_law_base" (SprF K dom_base R_base) [] := by
  refine cal_spr F b sc_base (fun ds h => ?_) (by decide) (fun cdv A outer s H E hr ds h => ?_)
  · cases h; rfl
  cases h
  refine ⟨_, pss_one (ps_ret (pe_ix ix_list (pe_lst (pa_cons pe_int (pa_cons pe_int (pa_cons pe_int (pa_cons pe_int pa_nil))))) (C8.pe_c c_take hr (by decide) (by rfl) (pa_cons (pv 0) (pa_cons pe_int pa_nil))) (fun _ _ => rfl))), fun c D p sp h3 k => ?_⟩
  have hs : Spr (startS 1 p sp []) 0 := ⟨sp, some p, h3, rfl⟩
  refine go_retX (i := 0) (s := sp) (P := R_base []) rfl (ex_opR hs (EvN.toD (en_lst (ds := [.int 2, .int 2, .int 3, .int 5]) (ea_cons ed_int (ea_cons ed_int (ea_cons ed_int (ea_cons ed_int ea_nil)))) (by simp))) (ex_call hs (ds := [.int 4]) (ea_cons ed_int ea_nil) ⟨4, rfl, by decide, by decide⟩) (fun d2 h2 => ?_)) k
  obtain ⟨n, t, e1, rfl, h4, h5⟩ := h2
  cases e1
  have ht : t = 0 ∨ t = 1 ∨ t = 2 ∨ t = 3 := by omega
  rcases ht with rfl | rfl | rfl | rfl
  · exact ⟨.int 2, ⟨2, .inl rfl, rfl⟩, rd_ixL rfl⟩
  · exact ⟨.int 2, ⟨2, .inl rfl, rfl⟩, rd_ixL rfl⟩
  · exact ⟨.int 3, ⟨3, .inr (.inl rfl), rfl⟩, rd_ixL rfl⟩
  · exact ⟨.int 5, ⟨5, .inr (.inr rfl), rfl⟩, rd_ixL rfl⟩
/-! _law_pat -/
def dom_pat : List PyData → Prop := fun ds => ∃ p, primeP p ∧ ds = [.int p, .int 1, .int 2]
def R_pat : List PyData → PyData → Prop := fun ds d => ∃ (p : Int) (r : Rule), ds = [.int p, .int 1, .int 2] ∧ r ∈ pats p ∧ d = ruleD r
abbrev N_pat : List Str := ["_law_spring_here", "_law_base_here", "_law_far", "_law_most", "_law_spots", "_law_found", "_law_k", "_law_spot"]
theorem sc_pat : FnScope N_pat ["_law_spring_here", "_law_base_here", "_law_far", "_law_most"] (C8.fnScope s__law_pat) := C8.fnScope_by (by decide +kernel)
/-- what has been drawn, what is left -/
structure Drawn (n : Nat) (spots found : List Int) : Prop where
  len : spots.length + n = 3
  fl : found.length = n
  nd : (found ++ spots).Nodup
  mem : ∀ x ∈ found ++ spots, x = -1 ∨ x = 0 ∨ x = 1
theorem map_erase' {α β : Type} (f : α → β) : ∀ (l : List α) (t : Nat), (l.map f).eraseIdx t = (l.eraseIdx t).map f
  | [], _ => rfl
  | _ :: _, 0 => rfl
  | x :: l, t + 1 => congrArg (f x :: ·) (map_erase' f l t)
theorem cons_erase : ∀ (l : List Int) (t : Nat) (y : Int), l[t]? = some y → ([y] ++ l.eraseIdx t).Perm l
  | [], t, y, h => by simp at h
  | x :: l, 0, y, h => by
    cases h
    exact List.Perm.refl _
  | x :: l, t + 1, y, h => by
    have ih := cons_erase l t y (by simpa using h)
    exact (List.Perm.swap x y (l.eraseIdx t)).trans (ih.cons x)
theorem en_listRg {K : PySem.W.Frag} {Γ : List Sl} {ta tb : TE} {a b : Int} (ha : EvD K ta Γ (.int a)) (hb : EvD K tb Γ (.int b)) (ok : RgOk a b) : EvN K (tLstRg (tRg2 ta tb)) Γ (rangeD a (b - a).toNat) := fun hh H0 σ H x Q q =>
  ha hh H0 σ H x _ fun v H1 H' a1 e1 => hb hh H1 σ H' (x.adv a1) _ fun w H2 H'' a2 e2 => by
    rw [dp_int e1, dp_int e2]
    refine ⟨a, b, rfl, rfl, ok, fun p hp => q p _ H2 H'' (a1.trans a2) hp ?_⟩
    rw [rangeD_ints]
    have e : rgV a b = ((List.range (b - a).toNat).map fun i => a + ((i : Nat) : Int)).map V.int := by
      unfold rgV
      rw [List.map_map]
      rfl
    rw [e]
    exact dps_ints _
theorem Drawn.step {n t : Nat} {spots found : List Int} {y : Int} (h : Drawn n spots found) (hy : spots[t]? = some y) : Drawn (n + 1) (spots.eraseIdx t) (found ++ [y]) := by
  obtain ⟨ht, ey⟩ := List.getElem?_eq_some_iff.mp hy
  have pm : (found ++ [y] ++ spots.eraseIdx t).Perm (found ++ spots) := by
    rw [List.append_assoc]
    refine List.Perm.append_left _ ?_
    exact cons_erase spots t y hy
  refine ⟨?_, by rw [List.length_append, h.fl]; rfl, pm.nodup_iff.mpr h.nd, fun x hx => h.mem x (pm.mem_iff.mp hx)⟩
  rw [List.length_eraseIdx, if_pos ht]
  have := h.len
  omega
theorem pat_of {p : Int} {found : List Int} {n : Nat} {spots : List Int} (h : Drawn n spots found) (hn : n = 1 ∨ n = 2) {es : List PyData} (h1 : es.length = (sortU found).length)
    (h2 : ∀ (j : Nat) (o : Int) y, (sortU found)[j]? = some o → es[j]? = some y → ∃ a, 1 ≤ a ∧ a ≤ p - 1 ∧ y = .tuple [.int o, .int a]) : ∃ r, r ∈ pats p ∧ PyData.tuple es = ruleD r := by
  have asc := sortU_asc found
  have mem : ∀ o ∈ sortU found, o = -1 ∨ o = 0 ∨ o = 1 := fun o ho => h.mem o (List.mem_append_left _ ((sortU_mem found o).mp ho))
  have hle := sortU_len found
  rw [h.fl] at hle
  have h0 : sortU found ≠ [] := fun e => by
    cases found with
    | nil => have := h.fl; simp at this; omega
    | cons x r => have := (sortU_mem (x :: r) x).mpr List.mem_cons_self; rw [e] at this; cases this
  generalize sortU found = l at *
  match l, es, h1 with
  | [], _, _ => exact absurd rfl h0
  | [o], [e], _ =>
    obtain ⟨a, a1, a2, rfl⟩ := h2 0 o e rfl rfl
    exact ⟨[(o, a)], pat_one (amount_in (mem o List.mem_cons_self) a1 a2), rfl⟩
  | [o, o'], [e, e'], _ =>
    obtain ⟨a, a1, a2, rfl⟩ := h2 0 o e rfl rfl
    obtain ⟨a', a1', a2', rfl⟩ := h2 1 o' e' rfl rfl
    exact ⟨[(o, a), (o', a')], pat_two (amount_in (mem o List.mem_cons_self) a1 a2) (amount_in (mem o' (List.mem_cons_of_mem _ List.mem_cons_self)) a1' a2') ((List.pairwise_cons.mp asc).1 o' List.mem_cons_self), rfl⟩
  | _ :: _ :: _ :: _, _, _ => simp at hle; omega
theorem ok_pat (T : Txt K mg) (F : C8.Def K mg "_law_pat" s__law_pat f fd) (b : Binds K fd ["_law_spring_here", "_law_base_here", "_law_far", "_law_most"] []) (c_take : C8.Cal P w K mg base 1 "_law_take" (SprF K dom_take R_take) []) : C8.Cal P w K mg base 2 "_law_pat" (SprF K dom_pat R_pat) [] := by
  refine cal_spr F b sc_pat (fun ds h => ?_) (by decide) (fun cdv A outer s H E hr ds h => ?_)
  · obtain ⟨_, _, rfl⟩ := h; rfl
  obtain ⟨pr, hpr, rfl⟩ := h
  refine ⟨_, pss_cons (ps_par (i := 4) (j := 5) (by rfl) sc_pat.nd rfl rfl (by decide) rfl rfl (pa_cons (pe_listRg (by rfl) (by rfl) T.list_ (prg_2 (by rfl) T.range_ (pe_un un_neg (pv 2)) (pe_op op_add (pv 2) pe_int))) (pa_cons (pe_lst pa_nil) pa_nil)) (by rfl))
    (pss_cons (ps_for PassesOwn.never rfl (pi_range1 (by rfl) T.range_ (pa_cons (pe_op op_add pe_int (C8.pe_c c_take hr (by decide) (by rfl) (pa_cons (pv 0) (pa_cons (pe_callB (call_min2 (by rfl)) (by rfl) T.min_ (by decide +kernel) (pa_cons (pv 3) (pa_cons (pe_op op_add (pe_op op_mul pe_int (pv 2)) pe_int) pa_nil))) pa_nil)))) pa_nil)) (pg_name (i := 6) sc_pat.nd rfl (.inl rfl))
      (pss_one (ps_expr (pe_bm PySem.F.plainAttrs_list PySem.F.slot_list_append PySem.F.type_list_append mt_append (pv 5) (pa_cons (pe_bm PySem.F.plainAttrs_list PySem.F.slot_list_pop PySem.F.type_list_pop mt_popAt (pv 4) (pa_cons (C8.pe_c c_take hr (by decide) (by rfl) (pa_cons (pv 0) (pa_cons (pe_callB call_len_seq (by rfl) T.len_ PySem.boot_len (pa_cons (pv 4) pa_nil)) pa_nil))) pa_nil)) pa_nil)))))
    (pss_one (ps_ret (pe_callTy call_tuple_of (by rfl) T.tuple_ (by decide +kernel) (pa_cons (pe_lc (own := [("_law_spot", 7)]) (g := gName 7) (by rfl) sc_pat.nd (pi_list (pe_callB cr_sorted (by rfl) T.sorted_ (by decide +kernel) (pa_cons (pv 5) pa_nil))) (blkOk_by (N := N_pat) (sc := C8.fnScope s__law_pat) (by decide +kernel)) (fun _ _ _ _ _ => pg_name (i := 7) sc_pat.nd rfl (.inl rfl)) (fun _ _ _ _ _ => pts_nil)
      (fun _ _ _ _ _ => pe_tup (pa_cons (pv 7) (pa_cons (pe_op op_add pe_int (C8.pe_c c_take hr (by decide) (by rfl) (pa_cons (pv 0) (pa_cons (pe_op op_sub (pv 1) pe_int) pa_nil)))) pa_nil)))) pa_nil))))), fun c D p sp h3 k => ?_⟩
  refine go_seq (go_parOwn (es1 := rowsI [-1, 0, 1]) (es2 := rowsI []) ((en_listRg (ed_neg (ed_var rfl)) (ed_i0 (ed_var rfl) ed_int) ⟨by decide, by decide, by decide, by decide, by decide⟩).is rfl) (en_lst ea_nil (by decide)) ?_)
  change Go K c [.own (rowsI sp) (some p), .d (.int pr), .d (.int 1), .d (.int 2), .own (rowsI [-1, 0, 1]), .own (rowsI []), .no, .no] _
  have spr : ∀ {s' : List Int} {rest : List Sl}, s'.length = 3 → Spr (.own (rowsI s') (some p) :: rest) 0 := fun {s' rest} h => ⟨s', some p, h, rfl⟩
  dsimp only
  refine go_seq (go_forR (i := 0) (s := sp) (pin := some p) (P := fun d => ∃ m : Int, d = .int m ∧ (m = 1 ∨ m = 2)) rfl h3 (ex_opR (spr h3) ed_int (ex_call (spr h3) (ds := [.int 2]) (ea_cons ((ed_cb (ea_cons (ed_var (i := 3) rfl) (ea_cons (ed_i0 (ed_i ed_int (ed_var (i := 2) rfl) (.inl ⟨by decide, by decide⟩)) ed_int) ea_nil)) rc_min2).is rfl) ea_nil) ⟨2, rfl, by decide, by decide⟩) (fun d2 h2 => ?_)) (fun d h => ?_) (fun n s' hn h3' => ?_))
  · obtain ⟨m, t, e1, rfl, h4, h5⟩ := h2
    cases e1
    exact ⟨.int (1 + t), ⟨1 + t, rfl, by omega⟩, rd_I0 (g := fun i j => .int (i + j)) fun _ => .int _⟩
  · obtain ⟨m, rfl, hm⟩ := h
    exact ⟨m, rfl, by omega, by omega⟩
  obtain ⟨n', en, hn⟩ := hn
  cases en
  refine go_for (ds := rangeD 0 n.toNat) (Inv := fun i Γ => ∃ (s' spots found : List Int) (x6 : Sl), Γ = [.own (rowsI s') (some p), .d (.int pr), .d (.int 1), .d (.int 2), .own (rowsI spots), .own (rowsI found), x6, .no] ∧ s'.length = 3 ∧ Drawn i spots found) it_c ⟨s', [-1, 0, 1], [], _, rfl, h3', ⟨rfl, rfl, by decide, by simp⟩⟩ ?_ ?_
  · rintro b0 hb0 i d Γi e ⟨s1, spots, found, x6, rfl, h31, dr⟩
    have hi : i < n.toNat := by
      have := (List.getElem?_eq_some_iff.mp e).1
      rw [rangeD_len] at this
      exact this
    rw [rangeD_get hi] at e
    cases e
    have hlen := dr.len
    refine ⟨_, tg_name, ?_⟩
    refine go_popApp (i := 0) (j := 5) (l := 4) (s := s1) (pin := some p) (xs := rowsI spots) (ys := rowsI found) (P := fun d => ∃ t : Nat, d = .int (t : Int) ∧ t < spots.length) (by decide) (by decide) (by decide) rfl h31 rfl rfl (by rw [len_rows]; omega) (by rw [len_rows, dr.fl]; omega)
      ((ex_call (spr h31) (ds := [.int (spots.length : Int)]) (ea_cons ((ed_lenOwn (i := 4) rfl).is (by rw [len_rows])) ea_nil) ⟨_, rfl, by omega, by omega⟩).mono fun d hd => ?_) (fun d hd => by rw [len_rows]; exact hd) (fun t y s2 _ hy h32 => ?_)
    · obtain ⟨m, t, e1, rfl, h4, h5⟩ := hd
      cases e1
      exact ⟨t.toNat, by rw [Int.toNat_of_nonneg h4], by omega⟩
    · rw [List.getElem?_map] at hy
      cases hq : spots[t]? with
      | none => rw [hq] at hy; cases hy
      | some o =>
        rw [hq] at hy
        cases hy
        refine go_nx ?_
        refine ⟨s2, spots.eraseIdx t, found ++ [o], .d (.int (0 + (i : Nat))), ?_, h32, dr.step hq⟩
        show [_, _, _, _, Sl.own ((rowsI spots).eraseIdx t), .own (rowsI found ++ [.int o]), _, _] = _
        rw [show rowsI (found ++ [o]) = rowsI found ++ [.int o] from List.map_append]
        congr 6
        exact map_erase' _ spots t
  · rintro Γn ⟨s1, spots, found, x6, rfl, h31, dr⟩
    rw [rangeD_len] at dr
    have hn2 : n.toNat = 1 ∨ n.toNat = 2 := by omega
    have hnd : found.Nodup := (List.nodup_append.mp dr.nd).1
    have hfl := dr.fl
    refine go_freeze (i := 5) rfl ?_
    refine go_retX (i := 0) (s := s1) (P := R_pat [.int pr, .int 1, .int 2]) rfl (EvX.mono (ex_tupN (ex_lc (i := 0) (s := s1) (pin := some p) (ds := rowsI (sortU found)) (Pe := fun d y => ∃ (o a : Int), d = .int o ∧ 1 ≤ a ∧ a ≤ pr - 1 ∧ y = .tuple [.int o, .int a]) rfl h31 (by decide) (it_list (EvN.toD (en_sorted (ed_var (i := 5) rfl) (by omega) hnd))) (by rw [len_rows]; have := sortU_len found; omega) (fun j d e s2 h32 => ?_))) (fun d hd => ?_)) k
    · obtain ⟨o, ho, rfl, _⟩ := ints_get e
      refine ⟨_, tw_name (by decide), ts_nil, EvX.mono (ex_tup2 (spr h32) (ed_var (i := 7) rfl) (ex_opR (P := fun d => ∃ a : Int, d = .int a ∧ 1 ≤ a ∧ a ≤ pr - 1) (spr h32) ed_int (ex_call (spr h32) (ds := [.int (pr - 1)]) (ea_cons (ed_i0 (ed_var (i := 1) rfl) ed_int) ea_nil) ⟨pr - 1, rfl, ?_, ?_⟩) (fun d2 h2 => ?_))) (fun d hd => ?_)⟩
      · rcases hpr with rfl | rfl | rfl <;> decide
      · rcases hpr with rfl | rfl | rfl <;> decide
      · obtain ⟨m, t, e1, rfl, h4, h5⟩ := h2
        cases e1
        exact ⟨.int (1 + t), ⟨1 + t, rfl, by omega, by omega⟩, rd_I0 (g := fun i j => .int (i + j)) fun _ => .int _⟩
      · obtain ⟨d2, ⟨a, rfl, a1, a2⟩, rfl⟩ := hd
        exact ⟨o, a, rfl, a1, a2, rfl⟩
    · obtain ⟨es, ⟨g1, g2⟩, rfl⟩ := hd
      obtain ⟨r, hr1, hr2⟩ := pat_of (p := pr) dr hn2 (es := es) (by rw [g1, len_rows]) (fun j o y e1 e2 => by
        obtain ⟨o', a, eo, a1, a2, ey⟩ := g2 j (.int o) y (by rw [List.getElem?_map, e1]; rfl) e2
        cases eo
        exact ⟨a, a1, a2, ey⟩)
      exact ⟨pr, r, rfl, hr1, hr2⟩
end
end Evr
set_option Elab.async false
set_option linter.all false
set_option maxRecDepth 100000
set_option maxHeartbeats 4000000
namespace Evr
open PySem PySem.Spec PyProof.Rows L2
/-! list + list, both read only -/
def rCatL (K : PySem.W.Frag) : R2 := fun x y H Q => ∃ (l b : Addr) (xs zs : List V), x = .ref l ∧ y = .ref b ∧ SqL K H l xs ∧ SqL K H b zs ∧ xs.length + zs.length ≤ sizeLine ∧ ∀ p, H p = none → Q (.ref p) (upd H p (.lst (xs ++ zs)))
theorem op_catL {X : Cx} : OpR X (binaryOp .Add) (rCatL X.K) := by
  intro pins s σ H x y v u Q I rx ry h
  obtain ⟨l, b, xs, zs, rfl, rfl, h1, h2, hz, q⟩ := h
  cases rx
  cases ry
  obtain ⟨its, r1, ⟨⟨c1, e1, t1, k1⟩, n1, g1, hc1, hd1, ht1⟩, z1⟩ := I.list h1
  obtain ⟨its2, r2, ⟨⟨c2, e2, t2, k2⟩, n2, g2, hc2, hd2, ht2⟩, z2⟩ := I.list h2
  simp only at hc1 hd1 ht1 hc2 hd2 ht2
  subst hc1 hd1 ht1 hc2 hd2 ht2
  have len : its.length + its2.length ≤ sizeLine := by rw [← r1.length, ← r2.length]; exact hz
  refine concat_meets ⟨_, g1, rfl⟩ ⟨_, g2, rfl⟩ noFill_list_add seq_list_add PySem.F.slot_list_add PySem.F.entry_list_add (PySem.F.args_list_add_2 _ _) (list_addW l b its.toArray its2.toArray n1 n2 none none k1 k2 (by simpa using len)) ⟨g1, g2, ?_⟩
  rw [show its.toArray ++ its2.toArray = (its ++ its2).toArray by simp]
  exact ⟨.ref _, _, I.lnew (t' := s.toks) (r1.append r2) (by rw [List.length_append]; exact hz), rfl, q _ I.fresh⟩
theorem rn_catL {K : PySem.W.Frag} {ds es : List PyData} (hl : ds.length + es.length ≤ 100000) : RN K (rCatL K) (.list ds) (.list es) (ds ++ es) := fun H0 H x y s e1 e2 Q q => by
  obtain ⟨l, xs, rfl, h1, a1⟩ := dp_lst e1
  obtain ⟨b, zs, rfl, h2, a2⟩ := dp_lst e2
  exact ⟨l, b, xs, zs, rfl, rfl, s.seq h1, s.seq h2, Nat.le_trans (by rw [dps_len a1, dps_len a2]; exact hl) (show 100000 ≤ sizeLine by decide), fun p hp => q p _ H0 H (Adv.refl s) hp (dps_app a1 a2)⟩
theorem rules_of {p : Int} : ∀ es : List PyData, (∀ (j : Nat) y, es[j]? = some y → ∃ r, r ∈ pats p ∧ y = ruleD r) → ∃ bs : List Rule, es = bs.map ruleD ∧ bs.length = es.length ∧ ∀ r ∈ bs, r ∈ pats p
  | [], _ => ⟨[], rfl, rfl, fun _ h => by cases h⟩
  | e :: es, h => by
    obtain ⟨r, hr, rfl⟩ := h 0 _ rfl
    obtain ⟨bs, rfl, h2, h3⟩ := rules_of es fun j y hy => h (j + 1) y (by simpa using hy)
    refine ⟨r :: bs, rfl, congrArg (· + 1) h2, fun x hx => ?_⟩
    rcases List.mem_cons.mp hx with e | hx
    · rw [e]; exact hr
    · exact h3 x hx
def smallP (p : Int) (bs : List Rule) : Prop := (bs.length = 1 ∨ bs.length = 2) ∧ ∀ r ∈ bs, r ∈ pats p
section
variable {P : Program} {w : World} {K : PySem.W.Frag} {mg : Str → Option Value} {base : Heap} {f : Addr} {fd : FuncData}
/-! _law_small -/
def dom_small : List PyData → Prop := fun ds => ∃ p, primeP p ∧ ds = [.int p]
def R_small : List PyData → PyData → Prop := fun ds d => ∃ (p : Int) (bs : List Rule), ds = [.int p] ∧ smallP p bs ∧ d = panelD p bs
abbrev N_small : List Str := ["_law_spring_here", "_law_base_here", "_law_part", "_law_found", "_law_k", "_law_spot", "_law_amount"]
theorem sc_small : FnScope N_small ["_law_spring_here", "_law_base_here"] (C8.fnScope s__law_small) := C8.fnScope_by (by decide +kernel)
theorem ok_small (T : Txt K mg) (F : C8.Def K mg "_law_small" s__law_small f fd) (b : Binds K fd ["_law_spring_here", "_law_base_here"] []) (c_take : C8.Cal P w K mg base 1 "_law_take" (SprF K dom_take R_take) []) (c_pat : C8.Cal P w K mg base 2 "_law_pat" (SprF K dom_pat R_pat) []) : C8.Cal P w K mg base 3 "_law_small" (SprF K dom_small R_small) [] := by
  refine cal_spr F b sc_small (fun ds h => ?_) (by decide) (fun cdv A outer s H E hr ds h => ?_)
  · obtain ⟨_, _, rfl⟩ := h; rfl
  obtain ⟨pr, hpr, rfl⟩ := h
  refine ⟨_, pss_cons (ps_set (i := 2) sc_small.nd rfl (by first | exact .inl rfl | exact .inr rfl) (C8.pe_c c_pat hr (by decide) (by rfl) (pa_cons (pv 0) (pa_cons (pv 1) (pa_cons pe_int (pa_cons pe_int pa_nil))))))
    (pss_cons (ps_setLc (i := 3) (own := [("_law_k", 4)]) (g := gName 4) (by rfl) sc_small.nd rfl rfl (sw_true rfl rfl rfl (by decide +kernel)) (pi_range1 (by rfl) T.range_ (pa_cons (pe_op op_add pe_int (C8.pe_c c_take hr (by decide) (by rfl) (pa_cons (pv 0) (pa_cons pe_int pa_nil)))) pa_nil)) (blkOk_by (N := N_small) (sc := C8.fnScope s__law_small) (by decide +kernel)) (fun _ _ _ _ _ => pg_name (i := 4) sc_small.nd rfl (.inl rfl)) (fun _ _ _ _ _ => pts_nil)
      (fun _ _ _ _ _ => C8.pe_c c_pat hr (by decide) (by rfl) (pa_cons (pv 0) (pa_cons (pv 1) (pa_cons pe_int (pa_cons pe_int pa_nil))))))
    (pss_cons (ps_if (pt_cmpR op_eq (C8.pe_c c_take hr (by decide) (by rfl) (pa_cons (pv 0) (pa_cons pe_int pa_nil))) pe_int (nomark _)) (pss_one (ps_set (i := 3) sc_small.nd rfl (.inl rfl) (pe_lst (pa_cons (pe_callTy call_tuple_of (by rfl) T.tuple_ (by decide +kernel) (pa_cons (pe_lc (own := [("_law_spot", 5), ("_law_amount", 6)]) (g := gTup K 2 (gCons (gName 5) (gCons (gName 6) gNil))) (by rfl) sc_small.nd (pi_tup (pv 2)) (blkOk_by (N := N_small) (sc := C8.fnScope s__law_small) (by decide +kernel))
        (fun _ _ _ _ _ => pg_tup rfl (pgs_cons (pg_name (i := 5) sc_small.nd rfl (.inl rfl)) (pgs_cons (pg_name (i := 6) sc_small.nd rfl (.inl rfl)) pgs_nil))) (fun _ _ _ _ _ => pts_nil) (fun _ _ _ _ _ => pe_tup (pa_cons (pv 5) (pa_cons (pv 6) pa_nil)))) pa_nil)) pa_nil)))) pss_nil)
    (pss_one (ps_ret (pe_tup (pa_cons (pv 1) (pa_cons (pe_callTy call_tuple_of (by rfl) T.tuple_ (by decide +kernel) (pa_cons (pv 3) pa_nil)) pa_nil))))))), fun c D p sp h3 k => ?_⟩
  have spr : ∀ {s' : List Int} {rest : List Sl}, s'.length = 3 → Spr (.own (rowsI s') (some p) :: rest) 0 := fun {s' rest} h => ⟨s', some p, h, rfl⟩
  have fin : ∀ (s' : List Int) (bs : List Rule) (x2 x4 x5 x6 : Sl), s'.length = 3 → smallP pr bs → Go K c [.own (rowsI s') (some p), .d (.int pr), x2, .own (bs.map ruleD), x4, x5, x6] (tRet (tTup (tCons (tVar 1) (tCons (tCB (rTupQ K) (tCons (tVar 3) tNil)) tNil))) D) := fun s' bs x2 x4 x5 x6 h h2 => by
    refine go_freeze (i := 3) rfl ?_
    refine go_retX (i := 0) (s := s') (P := R_small [.int pr]) rfl (ex_of (spr h) (d := panelD pr bs) (ed_tup (ea_cons (ed_var (i := 1) rfl) (ea_cons (ed_cb1 (ed_var (i := 3) rfl) rc_tupL) ea_nil)) (by simp)) ⟨pr, bs, rfl, h2, rfl⟩) k
  have call_pat : ∀ {s' : List Int} {rest : List Sl}, s'.length = 3 → EvX K (tCall (SprF K dom_pat R_pat) [] C8.E0 (tCons (tVar 0) (tCons (tVar 1) (tCons (tC (.int 1)) (tCons (tC (.int 2)) tNil))))) (.own (rowsI s') (some p) :: .d (.int pr) :: rest) 0 (fun d => ∃ r, r ∈ pats pr ∧ d = ruleD r) := fun {s' rest} h =>
    (ex_call (spr h) (ds := [.int pr, .int 1, .int 2]) (ea_cons (ed_var (i := 1) rfl) (ea_cons ed_int (ea_cons ed_int ea_nil))) ⟨pr, hpr, rfl⟩).mono fun d hd => by
      obtain ⟨p', r, e, hr, rfl⟩ := hd
      cases e
      exact ⟨r, hr, rfl⟩
  have call_take : ∀ {s' : List Int} {rest : List Sl}, s'.length = 3 → EvX K (tCall (SprF K dom_take R_take) [] C8.E0 (tCons (tVar 0) (tCons (tC (.int 2)) tNil))) (.own (rowsI s') (some p) :: rest) 0 (fun d => ∃ t : Int, d = .int t ∧ 0 ≤ t ∧ t < 2) := fun {s' rest} h =>
    (ex_call (spr h) (ds := [.int 2]) (ea_cons ed_int ea_nil) ⟨2, rfl, by decide, by decide⟩).mono fun d hd => by
      obtain ⟨n, t, e, rfl, h4, h5⟩ := hd
      cases e
      exact ⟨t, rfl, h4, h5⟩
  change Go K c [.own (rowsI sp) (some p), .d (.int pr), .no, .no, .no, .no, .no] _
  refine go_seq (go_asgX (i := 0) (s := sp) (pin := some p) rfl h3 (call_pat h3) (fun d s1 hd h31 => ?_))
  obtain ⟨part, hpart, rfl⟩ := hd
  dsimp only
  change Go K c [.own (rowsI s1) (some p), .d (.int pr), .d (ruleD part), .no, .no, .no, .no] _
  refine go_seq (go_asgXN (i := 0) (s := s1) (pin := some p) (PN := fun es => ∃ bs, es = bs.map ruleD ∧ smallP pr bs) rfl h31 (ex_lcR (i := 0) (s := s1) (pin := some p) (P := fun d => ∃ m : Int, d = .int m ∧ (m = 1 ∨ m = 2)) rfl h31 (ex_opR (spr h31) ed_int (call_take h31) (fun d2 h2 => ?_)) (fun d h => ?_) (fun n s2 hn h32 => ?_)) (fun es s2 hes h32 => ?_))
  · obtain ⟨t, rfl, h4, h5⟩ := h2
    exact ⟨.int (1 + t), ⟨1 + t, rfl, by omega⟩, rd_I0 (g := fun i j => .int (i + j)) fun _ => .int _⟩
  · obtain ⟨m, rfl, hm⟩ := h
    exact ⟨m, rfl, by omega, by omega⟩
  · obtain ⟨m, e, hm⟩ := hn
    cases e
    have z := ex_lc (K := K) (te := tCall (SprF K dom_pat R_pat) [] C8.E0 (tCons (tVar 0) (tCons (tVar 1) (tCons (tC (.int 1)) (tCons (tC (.int 2)) tNil))))) (tt := fun σ H Q => Q true H) (g := gName 4) (vs := [4]) (i := 0) (s := s2) (pin := some p) (Γ := [.own (rowsI s2) (some p), .d (.int pr), .d (ruleD part), .no, .no, .no, .no]) (ds := rangeD 0 n.toNat) (Pe := fun _ y => ∃ r, r ∈ pats pr ∧ y = ruleD r) rfl h32 (by decide) it_c (by rw [rangeD_len]; omega)
      (fun j d e s3 h33 => ⟨_, tw_name (by decide), ts_nil, call_pat h33⟩)
    exact fun hh H0 σ H q x ep Q qq => z hh H0 σ H q x ep Q fun r vs es s' H0' H1 ⟨g1, g2⟩ a n1 dd => by
      obtain ⟨bs, e1, e2, e3⟩ := rules_of (p := pr) es fun j y hy => by
        have hj := (List.getElem?_eq_some_iff.mp hy).1
        exact g2 j _ y (List.getElem?_eq_getElem (by rw [← g1]; exact hj)) hy
      rw [rangeD_len] at g1
      exact qq r vs es s' H0' H1 ⟨bs, e1, by rw [e2, g1]; omega, e3⟩ a n1 dd
  obtain ⟨bs, rfl, hbs⟩ := hes
  dsimp only
  change Go K c [.own (rowsI s2) (some p), .d (.int pr), .d (ruleD part), .own (bs.map ruleD), .no, .no, .no] _
  refine go_seq (go_ifX (i := 0) (s := s2) (pin := some p) rfl h32 (ex_eq (spr h32) (call_take h32) (fun d h => ?_)) (fun s3 h33 => ?_) (fun s3 h33 => ?_))
  · obtain ⟨t, rfl, _⟩ := h
    exact ⟨t, rfl⟩
  · change Go K c [.own (rowsI s3) (some p), .d (.int pr), .d (ruleD part), .own (bs.map ruleD), .no, .no, .no] _
    refine go_asgN (es := [part].map ruleD) (EvN.is (en_lst (ea_cons (ed_cb1 (EvN.toD (en_map (fun d => d) (it_tup (ed_var (i := 2) rfl)) ?_ fun j d e => ?_)) rc_tupL) ea_nil) (by simp)) ?_) (fin s3 [part] _ _ _ _ h33 ⟨.inl rfl, fun r hr => by rw [List.mem_singleton.mp hr]; exact hpart⟩)
    · rw [List.length_map]
      have : part.length ≤ 2 := by
        unfold pats at hpart
        rcases List.mem_append.mp hpart with h | h
        · obtain ⟨x, _, rfl⟩ := List.mem_map.mp h
          simp
        · obtain ⟨x, _, h⟩ := List.mem_flatMap.mp h
          obtain ⟨y, _, h⟩ := List.mem_filterMap.mp h
          split at h
          · cases h; simp
          · cases h
      omega
    · obtain ⟨x, _, rfl, _, _⟩ := rule_get e
      exact ⟨_, tw_tup (tws_cons (tw_name (by decide)) (tws_cons (tw_name (by decide)) tws_nil)) rfl, ts_nil, ed_tup (ea_cons (ed_var rfl) (ea_cons (ed_var rfl) ea_nil)) (by simp)⟩
    · rw [List.map_id']
      rfl
  · exact go_next (fin s3 bs _ _ _ _ h33 hbs)
end
end Evr
set_option Elab.async false
set_option linter.all false
set_option maxRecDepth 100000
set_option maxHeartbeats 4000000
namespace Evr
open PySem PySem.Spec PyProof.Rows L2
def rSortDI : List V → Hp → VK → Prop := fun xs H Q => ∃ (a : Addr) (kvs : List (Key × V)) (ks : List Int), xs = [.ref a] ∧ Rd H a (.dK kvs) ∧ kvs.map (·.1) = ks.map Sum.inl ∧ ks.length < 64 ∧
  ∀ (ys : List Int) (p : Addr), ys.Perm ks → ys.Pairwise (· ≤ ·) → H p = none → Q (.ref p) (upd H p (.lst (ys.map V.int)))
theorem find_mem {k v : Int} : ∀ {w : List (Int × Int)}, (w.map (·.1)).Nodup → (k, v) ∈ w → (w.find? fun kv => decide (kv.1 = k)) = some (k, v)
  | [], _, h => by cases h
  | x :: w, nd, h => by
    have nd' := List.nodup_cons.mp nd
    rw [List.find?_cons]
    rcases List.mem_cons.mp h with e | h
    · rw [← e, decide_eq_true rfl]
    · have hne : ¬ x.1 = k := fun e => nd'.1 (List.mem_map.mpr ⟨(k, v), h, e.symm⟩)
      rw [decide_eq_false hne]
      exact find_mem nd'.2 h
section
variable {K : PySem.W.Frag} {Γ : List Sl} {ty : TE} {i : Nat} {w : List (Int × Int)}
theorem en_sortDI (e : Γ[i]? = some (.obj (dkI w))) (ok : okW w = true) : EvN K (tCB rSortDI (tCons (tVar i) tNil)) Γ (rowsI ((sortB w).map (·.1))) := fun hh H0 σ H x Q q => by
  obtain ⟨p, e1, n1, n0, l, _⟩ := x.getObj e
  obtain ⟨hl, hb, nd⟩ := okW_iff ok
  refine ⟨_, e1, p, wtK w, w.map (·.1), rfl, Rd.of l, by rw [List.map_map, List.map_map]; rfl, by rw [List.length_map]; exact hl, fun ys r pm pw hr => ?_⟩
  have ndk := ((sortB_perm w).map (·.1)).nodup_iff.mpr nd
  have e2 : ys = (sortB w).map (·.1) := by
    refine ascI_uniq (fun k => ?_) (List.Pairwise.imp (fun {a b} h => by omega) (List.Pairwise.and pw (pm.nodup_iff.mpr nd))) (List.pairwise_map.mpr (asc_of (sortB_sorted w) ndk))
    rw [pm.mem_iff, ((sortB_perm w).map (·.1)).mem_iff]
  subst e2
  exact q r _ H0 H (Adv.refl x.i) hr (dps_ints _)
theorem ed_dgetI {k v : Int} (e : Γ[i]? = some (.obj (dkI w))) (hk : EvD K ty Γ (.int k)) (hv : (w.find? fun kv => decide (kv.1 = k)) = some (k, v)) : EvD K (tDGet (tVar i) ty) Γ (.int v) := fun hh H0 σ H x Q q => by
  obtain ⟨p, e1, n1, n0, l, _⟩ := x.getObj e
  refine ⟨_, e1, hk hh H0 σ H x _ fun y H1 H' a e2 => ⟨p, .int v, rfl, .inl ⟨wtK w, .inl k, Rd.of (a.s _ _ l), dp_int e2, ?_⟩, q _ _ _ a (.int v)⟩⟩
  rw [val_wt, hv]
  rfl
end
theorem pair_get {l : List (Int × Int)} {i : Nat} {d : PyData} (h : (l.map pairD)[i]? = some d) : ∃ x, l[i]? = some x ∧ d = pairD x ∧ l.drop i = x :: l.drop (i + 1) := by
  rw [List.getElem?_map] at h
  cases q : l[i]? with
  | none => rw [q] at h; cases h
  | some x =>
    rw [q] at h
    cases h
    obtain ⟨h1, h2⟩ := List.getElem?_eq_some_iff.mp q
    exact ⟨x, rfl, rfl, by rw [List.drop_eq_getElem_cons h1, h2]⟩
section
variable {P : Program} {w : World} {K : PySem.W.Frag} {mg : Str → Option Value} {base : Heap} {f : Addr} {fd : FuncData}
def R_added : List PyData → PyData → Prop := fun ds r => ∃ a b z, ds = [.list (a.map pairD), .list (b.map pairD)] ∧ addedM a b = some z ∧ r = .list (z.map pairD)
abbrev N_added : List Str := ["_law_first", "_law_second", "_law_found", "_law_spot", "_law_weight"]
theorem sc_added : FnScope N_added ["_law_first", "_law_second"] (C8.fnScope s__law_added) := C8.fnScope_by (by decide +kernel)
theorem ok_added (T : Txt K mg) (F : C8.Def K mg "_law_added" s__law_added f fd) (b : Binds K fd ["_law_first", "_law_second"] []) : C8.Cal P w K mg base 1 "_law_added" (PureF K R_added) [] := by
  refine cal_pure F b sc_added (fun ds r h => ?_) (fun cdv A outer s H E hr ds r h => ?_)
  · obtain ⟨_, _, _, rfl, _⟩ := h; rfl
  obtain ⟨a, bb, z, rfl, hm, rfl⟩ := h
  unfold addedM at hm
  split at hm
  case isFalse => cases hm
  case isTrue hl =>
  obtain ⟨d, h1, hm⟩ := Option.bind_eq_some_iff.mp hm
  split at hm
  case isFalse => cases hm
  case isTrue hok =>
  cases hm
  obtain ⟨hdl, _, hnd⟩ := okW_iff hok
  have hu : (A.deeper (envOfC "_law_added" (C8.fnScope s__law_added) s.heap.objs.size f cdv)).units + 1 < cLine := by have := hr.units; omega
  refine ⟨_, pss_cons (ps_set (i := 2) sc_added.nd rfl (by first | exact .inl rfl | exact .inr rfl) pe_dnewK)
    (pss_cons (ps_for PassesOwn.never rfl (pi_list (pe_op op_catL (pv 0) (pv 1))) (pg_tup rfl (pgs_cons (pg_name (i := 3) sc_added.nd rfl (.inl rfl)) (pgs_cons (pg_name (i := 4) sc_added.nd rfl (.inl rfl)) pgs_nil)))
      (pss_one (ps_asg (pe_op op_add (pe_dget2 hu (pv 2) (pv 3) pe_int ⟨by rfl, by rfl, by rfl, by rfl⟩) (pv 4)) (pg_sub (pv 2) (pv 3) (set_dict hu)))))
    (pss_one (ps_ret (pe_lc (own := [("_law_spot", 3)]) (g := gName 3) (by rfl) sc_added.nd (pi_list (pe_callB (r := rSortDI) (call_sortedDI (by rfl)) (by rfl) T.sorted_ (by decide +kernel) (pa_cons (pv 2) pa_nil))) (blkOk_by (N := N_added) (sc := C8.fnScope s__law_added) (by decide +kernel)) (fun _ _ _ _ _ => pg_name (i := 3) sc_added.nd rfl (.inl rfl)) (fun _ _ _ _ _ => pts_nil)
      (fun _ _ _ _ _ => pe_tup (pa_cons (pv 3) (pa_cons (pe_dget hu (pv 2) (pv 3) (fun _ _ => rfl)) pa_nil))))))), fun c D k => ?_⟩
  refine go_seq (go_dnew ?_)
  refine go_seq (go_for (ds := (a ++ bb).map pairD) (Inv := fun i Γ => ∃ wt, Γ = [.d (.list (a.map pairD)), .d (.list (bb.map pairD)), .obj (dkI wt), .no, .no] ∧ addF ((a ++ bb).drop i) wt = some d)
    (it_list (EvN.toD (EvN.is (en_op (ed_var rfl) (ed_var rfl) (rn_catL (by rw [List.length_map, List.length_map]; omega))) (by rw [List.map_append])))) ⟨[], rfl, h1⟩ ?_ ?_)
  · rintro b0 hb0 i dd Γi e ⟨wt, rfl, hf⟩
    obtain ⟨x, _, rfl, e2⟩ := pair_get e
    rw [e2] at hf
    unfold addF at hf
    split at hf
    case isFalse => cases hf
    case isTrue hwl =>
    refine ⟨_, tg_tup (tgs_cons tg_name (tgs_cons tg_name tgs_nil)) rfl, ?_⟩
    refine go_dput (i := 2) (w := wt) (k := x.1) (v := getI wt x.1 + x.2) rfl ?_ (by omega) (ed_i0 (ed_dget rfl (ed_var rfl) ed_int) (ed_var rfl)) (ed_var rfl) ?_
    · intro j u e
      rcases j with _ | _ | _ | _ | _ | j <;> first | rfl | cases e
    refine go_forget 3 (go_forget 4 (go_nx ?_))
    exact ⟨_, rfl, hf⟩
  · rintro Γn ⟨wt, rfl, hf⟩
    rw [List.length_map, List.drop_length] at hf
    cases hf
    have hsl : (sortB d).length = d.length := (sortB_perm d).length_eq
    refine go_ret (EvN.toD (en_each (es := (sortB d).map pairD) (it_list (EvN.toD (en_sortDI (i := 2) rfl hok))) (by rw [len_rows, List.length_map]; omega) (by rw [List.length_map, len_rows, List.length_map]) fun j dj e => ?_)) k
    obtain ⟨kk, hk, rfl, _⟩ := ints_get e
    rw [List.getElem?_map] at hk
    cases hq : (sortB d)[j]? with
    | none => rw [hq] at hk; cases hk
    | some x =>
      rw [hq] at hk
      cases hk
      have hmem : (x.1, x.2) ∈ d := (sortB_perm d).mem_iff.mp (List.mem_of_getElem? hq)
      exact ⟨pairD x, by rw [List.getElem?_map, hq]; rfl, _, tw_name (by decide), ts_nil, ed_tup (ea_cons (ed_var rfl) (ea_cons (ed_dgetI (i := 2) (w := d) rfl (ed_var rfl) (find_mem hnd hmem)) ea_nil)) (by simp)⟩
end
end Evr
set_option Elab.async false
set_option linter.all false
set_option maxRecDepth 100000
set_option maxHeartbeats 4000000
namespace Evr
open PySem PySem.Spec PyProof.Rows L2
/-- an expression that is worth a panel of this generator -/
def EvP (K : PySem.W.Frag) (te : TE) (Γ : List Sl) (p : Int) (g : Row) : Prop := ∃ bs, panB p bs = true ∧ genM p bs = some g ∧ EvD K te Γ (panelD p bs)
section
variable {K : PySem.W.Frag} {c : Cxt} {Γ Γ' : List Sl} {ta tb te : TE} {p : Int} {g h k : Row} {i : Nat} {D : Ends} {s : List Int} {pin : Option Addr} {PN : List PyData → Prop} {tg : TG}
theorem ep_var {bs : List Rule} (e : Γ[i]? = some (.d (panelD p bs))) (h1 : panB p bs = true) (h2 : genM p bs = some g) : EvP K (tVar i) Γ p g := ⟨bs, h1, h2, ed_var e⟩
theorem joinG_bs (hj : joinG p g h = some k) : ∃ bs, joinB p g h = some bs ∧ panB p bs = true ∧ genM p bs = some k := by
  obtain ⟨bs, e1, e2⟩ := Option.bind_eq_some_iff.mp (show (joinB p g h).bind (fun bs => genM p bs) = some k from hj)
  refine ⟨bs, e1, ?_, e2⟩
  unfold joinB at e1
  obtain ⟨r, _, e1⟩ := Option.bind_eq_some_iff.mp e1
  split at e1
  · rename_i hp
    cases e1
    exact hp
  · cases e1
theorem shareG_bs (hj : shareG p g h = some k) : ∃ bs, shareB p g h = some bs ∧ panB p bs = true ∧ genM p bs = some k := by
  obtain ⟨bs, e1, e2⟩ := Option.bind_eq_some_iff.mp (show (shareB p g h).bind (fun bs => genM p bs) = some k from hj)
  refine ⟨bs, e1, ?_, e2⟩
  unfold shareB at e1
  obtain ⟨r, _, e1⟩ := Option.bind_eq_some_iff.mp e1
  split at e1
  · rename_i hp
    cases e1
    exact hp
  · cases e1
abbrev tJ (K : PySem.W.Frag) (ta tb : TE) : TE := tCall (PureF K R_joined) [] C8.E0 (tCons ta (tCons tb tNil))
abbrev tS (K : PySem.W.Frag) (ta tb : TE) : TE := tCall (PureF K R_shared) [] C8.E0 (tCons ta (tCons tb tNil))
abbrev tAl (K : PySem.W.Frag) (ta tb : TE) : TE := tCall (PureF K R_alike) [] C8.E0 (tCons ta (tCons tb tNil))
abbrev tWi (K : PySem.W.Frag) (ta tb : TE) : TE := tCall (PureF K R_within) [] C8.E0 (tCons ta (tCons tb tNil))
abbrev tMa (K : PySem.W.Frag) (ta : TE) : TE := tCall (PureF K R_marks) [] C8.E0 (tCons ta tNil)
theorem ep_j (h1 : EvP K ta Γ p g) (h2 : EvP K tb Γ p h) (hj : joinG p g h = some k) : EvP K (tJ K ta tb) Γ p k := by
  obtain ⟨b1, a1, a2, a3⟩ := h1
  obtain ⟨b2, c1, c2, c3⟩ := h2
  obtain ⟨bs, e1, e2, e3⟩ := joinG_bs hj
  exact ⟨bs, e2, e3, ed_call (ea_cons a3 (ea_cons c3 ea_nil)) ⟨p, b1, b2, g, h, bs, rfl, a1, c1, a2, c2, e1, rfl⟩⟩
theorem ep_s (h1 : EvP K ta Γ p g) (h2 : EvP K tb Γ p h) (hj : shareG p g h = some k) : EvP K (tS K ta tb) Γ p k := by
  obtain ⟨b1, a1, a2, a3⟩ := h1
  obtain ⟨b2, c1, c2, c3⟩ := h2
  obtain ⟨bs, e1, e2, e3⟩ := shareG_bs hj
  exact ⟨bs, e2, e3, ed_call (ea_cons a3 (ea_cons c3 ea_nil)) ⟨p, b1, b2, g, h, bs, rfl, a1, c1, a2, c2, e1, rfl⟩⟩
theorem ep_al (h1 : EvP K ta Γ p g) (h2 : EvP K tb Γ p h) : EvD K (tAl K ta tb) Γ (.bool (decide (g = h))) := by
  obtain ⟨b1, a1, a2, a3⟩ := h1
  obtain ⟨b2, c1, c2, c3⟩ := h2
  exact ed_call (ea_cons a3 (ea_cons c3 ea_nil)) ⟨p, b1, b2, g, h, rfl, a1, c1, a2, c2, rfl⟩
theorem ep_yes (h1 : EvP K ta Γ p g) (h2 : EvP K tb Γ p g) : EvD K (tAl K ta tb) Γ (.bool true) := (ep_al h1 h2).is (by rw [decide_eq_true rfl])
theorem ep_wi {t : Bool} (h1 : EvP K ta Γ p g) (h2 : EvP K tb Γ p h) (ht : withinM p g h = some t) : EvD K (tWi K ta tb) Γ (.bool t) := by
  obtain ⟨b1, a1, a2, a3⟩ := h1
  obtain ⟨b2, c1, c2, c3⟩ := h2
  exact ed_call (ea_cons a3 (ea_cons c3 ea_nil)) ⟨p, b1, b2, g, h, t, rfl, a1, c1, a2, c2, ht, rfl⟩
theorem ep_ma {m : List (Int × Int)} (h1 : EvP K ta Γ p g) (hm : marksM p g = some m) : EvD K (tMa K ta) Γ (.list (m.map pairD)) := by
  obtain ⟨b1, a1, a2, a3⟩ := h1
  exact ed_call (ea_cons a3 ea_nil) ⟨p, b1, g, m, rfl, a1, a2, hm, rfl⟩
/-- a, b, c = e, e a new list that writes the spring -/
theorem go_asgXT (e : Γ[i]? = some (.own (rowsI s) pin)) (h : EvXN K te Γ i PN) (k : ∀ es s', PN es → s'.length = 3 → ∃ Γ', Tg K tg (.list es) (Γ.set i (.own (rowsI s') pin)) Γ' ∧ Go K c Γ' D.nx) : Go K c Γ (tAsg te tg D) := fun H0 σ H a x => by
  obtain ⟨q, vs, ep, n1, n0, l, dd⟩ := x.getOwn e
  refine h c.h H0 σ H q x ep _ fun r vs es s' H1 H' hpn a1 n e1 => ?_
  obtain ⟨Γ', tgo, go⟩ := k es s' hpn a1.k
  have z := adv_list (K := K) (Adv.refl a1.a.i) n e1
  have a2 := a1.pure z.1
  exact tgo c.h _ σ _ (.ref r) (x.spring e ep a2) z.2 _ fun σ' x' => go _ σ' _ (a.spring a2 n1) x'
end
/-! == of lists of pairs, of bools -/
theorem depth_pairs : ∀ z : List (Int × Int), PyData.depthAll (z.map pairD) ≤ 1
  | [] => by simp [PyData.depthAll]
  | x :: z => by
    have ih := depth_pairs z
    rw [List.map_cons, PyData.depthAll]
    simp only [pairD, PyData.depth, PyData.depthAll]
    omega
theorem lay_pairs : ∀ z : List (Int × Int), PyData.canLayAll0 (z.map pairD) = true
  | [] => by simp [PyData.canLayAll0]
  | x :: z => by
    rw [List.map_cons, PyData.canLayAll0, lay_pairs z]
    simp [PyData.canLay0, PyData.canLayAll0]
theorem eqv_pairs : ∀ z : List (Int × Int), PyData.eqvAll (z.map pairD) (z.map pairD) = true
  | [] => by simp [PyData.eqvAll]
  | x :: z => by
    rw [List.map_cons, PyData.eqvAll, eqv_pairs z]
    simp [PyData.eqv, PyData.eqvAll]
theorem depth_bools : ∀ z : List Bool, PyData.depthAll (z.map PyData.bool) = 0
  | [] => by simp [PyData.depthAll]
  | x :: z => by
    rw [List.map_cons, PyData.depthAll, depth_bools z]
    simp [PyData.depth]
theorem lay_bools : ∀ z : List Bool, PyData.canLayAll0 (z.map PyData.bool) = true
  | [] => by simp [PyData.canLayAll0]
  | x :: z => by
    rw [List.map_cons, PyData.canLayAll0, lay_bools z]
    simp [PyData.canLay0]
theorem eqv_bools : ∀ z : List Bool, PyData.eqvAll (z.map PyData.bool) (z.map PyData.bool) = true
  | [] => by simp [PyData.eqvAll]
  | x :: z => by
    rw [List.map_cons, PyData.eqvAll, eqv_bools z]
    simp [PyData.eqv]
theorem shaped_pairs (z : List (Int × Int)) : SeqAt.shaped (.list (z.map pairD)) = true := by
  have h := depth_pairs z
  unfold SeqAt.shaped
  rw [PyData.canLay0, PyData.depth, lay_pairs]
  simp only [Bool.true_and, decide_eq_true_eq]
  omega
theorem shaped_bools (z : List Bool) : SeqAt.shaped (.list (z.map PyData.bool)) = true := by
  unfold SeqAt.shaped
  rw [PyData.canLay0, PyData.depth, lay_bools, depth_bools]
  rfl
end Evr
set_option Elab.async false
set_option maxRecDepth 100000
set_option maxHeartbeats 0
/-! The law on generators. -/
namespace Evr
def gensL (p : Int) : List Row := [1] :: ((intsTo 1 p).map (fun c => [c, 1]) ++ (intsTo 1 p).map (fun c => [c, 0, 1]))
/-- two of them -/
def pairB (p : Int) (a b : Row) : Bool :=
  match joinG p a b, shareG p a b with
  | some j, some s => decide (joinG p b a = some j) && decide (shareG p b a = some s) && decide (joinG p a s = some a) && decide (shareG p a j = some a) &&
      decide (withinM p a j = some true) && decide (withinM p s a = some true) &&
      decide (withinM p a b = some (decide (j = b))) && decide (withinM p a b = some (decide (s = a))) &&
      (match marksM p j, marksM p s, marksM p a, marksM p b with
        | some mj, some ms, some ma, some mb => decide (addedM mj ms = addedM ma mb) && (addedM mj ms).isSome
        | _, _, _, _ => false)
  | _, _ => false
/-- three of them -/
def tripB (p : Int) (a b c : Row) : Bool :=
  match joinG p a b, shareG p a b, joinG p b c, shareG p b c, joinG p a c, shareG p a c with
  | some jab, some sab, some jbc, some sbc, some jac, some sac =>
    (match joinG p jab c with | some x => decide (joinG p a jbc = some x) | none => false) &&
    (match shareG p sab c with | some x => decide (shareG p a sbc = some x) | none => false) &&
    (match shareG p a jbc with | some x => decide (joinG p sab sac = some x) | none => false) &&
    (match joinG p a sbc with | some x => decide (shareG p jab jac = some x) | none => false)
  | _, _, _, _, _, _ => false
def allPairs (p : Int) : Bool := (gensL p).all fun a => decide (joinG p a a = some a) && decide (shareG p a a = some a) && (gensL p).all fun b => pairB p a b
theorem pairs2 : allPairs 2 = true := by decide +kernel
theorem pairs3 : allPairs 3 = true := by decide +kernel
theorem pairs5 : allPairs 5 = true := by decide +kernel
end Evr
set_option Elab.async false
set_option maxRecDepth 100000
set_option maxHeartbeats 0
namespace Evr
def tripA (p : Int) (a : Row) : Bool := (gensL p).all fun b => (gensL p).all fun c => tripB p a b c
theorem trip2 : ((gensL 2).all fun a => tripA 2 a) = true := by decide +kernel
theorem trip3 : ((gensL 3).all fun a => tripA 3 a) = true := by decide +kernel
theorem trip5a : tripA 5 [1] = true := by decide +kernel
theorem trip5b : tripA 5 [1, 1] = true := by decide +kernel
theorem trip5c : tripA 5 [2, 1] = true := by decide +kernel
theorem trip5d : tripA 5 [3, 1] = true := by decide +kernel
theorem trip5e : tripA 5 [4, 1] = true := by decide +kernel
theorem trip5f : tripA 5 [1, 0, 1] = true := by decide +kernel
theorem trip5g : tripA 5 [2, 0, 1] = true := by decide +kernel
theorem trip5h : tripA 5 [3, 0, 1] = true := by decide +kernel
theorem trip5i : tripA 5 [4, 0, 1] = true := by decide +kernel
theorem trip5 : ((gensL 5).all fun a => tripA 5 a) = true := by
  rw [List.all_eq_true]
  intro a ha
  have e : gensL 5 = [[1], [1, 1], [2, 1], [3, 1], [4, 1], [1, 0, 1], [2, 0, 1], [3, 0, 1], [4, 0, 1]] := by decide +kernel
  rw [e] at ha
  simp only [List.mem_cons, List.not_mem_nil, or_false] at ha
  rcases ha with rfl | rfl | rfl | rfl | rfl | rfl | rfl | rfl | rfl
  · exact trip5a
  · exact trip5b
  · exact trip5c
  · exact trip5d
  · exact trip5e
  · exact trip5f
  · exact trip5g
  · exact trip5h
  · exact trip5i
def patC (p : Int) : Bool := (pats p).all fun r => match coreM p r with
  | some c => (gensL p).any (fun g => decide (g = c)) && ruleB p r
  | none => false
def twoC (p : Int) : Bool := (gensL p).all fun g => decide (gcdM p [g] = some g) && (gensL p).all fun h => match gcdM p [g, h] with
  | some c => (gensL p).any fun x => decide (x = c)
  | none => false
theorem patC2 : patC 2 = true := by decide +kernel
theorem patC3 : patC 3 = true := by decide +kernel
theorem patC5 : patC 5 = true := by decide +kernel
theorem twoC2 : twoC 2 = true := by decide +kernel
theorem twoC3 : twoC 3 = true := by decide +kernel
theorem twoC5 : twoC 5 = true := by decide +kernel
end Evr
set_option Elab.async false
set_option maxRecDepth 100000
set_option maxHeartbeats 4000000
/-! What the law asks of three panels' generators. -/
namespace Evr
structure Fact (p : Int) (a b c : Row) : Prop where
  ex : ∃ jab sab jbc sbc jac sac x1 x2 x3 x4 mj ms ma mb z, joinG p a b = some jab ∧ shareG p a b = some sab ∧ joinG p b c = some jbc ∧ shareG p b c = some sbc ∧ joinG p a c = some jac ∧ shareG p a c = some sac ∧
    joinG p a a = some a ∧ shareG p a a = some a ∧ joinG p b a = some jab ∧ shareG p b a = some sab ∧
    joinG p jab c = some x1 ∧ joinG p a jbc = some x1 ∧ shareG p sab c = some x2 ∧ shareG p a sbc = some x2 ∧
    joinG p a sab = some a ∧ shareG p a jab = some a ∧ withinM p a jab = some true ∧ withinM p sab a = some true ∧
    shareG p a jbc = some x3 ∧ joinG p sab sac = some x3 ∧ joinG p a sbc = some x4 ∧ shareG p jab jac = some x4 ∧
    withinM p a b = some (decide (jab = b)) ∧ withinM p a b = some (decide (sab = a)) ∧
    marksM p jab = some mj ∧ marksM p sab = some ms ∧ marksM p a = some ma ∧ marksM p b = some mb ∧ addedM mj ms = some z ∧ addedM ma mb = some z
theorem fact_of {p : Int} {a b c : Row} (h1 : (decide (joinG p a a = some a) && decide (shareG p a a = some a)) = true) (h2 : pairB p a b = true) (h3 : tripB p a b c = true) : Fact p a b c := by
  rw [Bool.and_eq_true] at h1
  have i1 := of_decide_eq_true h1.1
  have i2 := of_decide_eq_true h1.2
  unfold pairB at h2
  unfold tripB at h3
  split at h2
  case h_2 => cases h2
  case h_1 jab sab e1 e2 =>
  rw [e1, e2] at h3
  split at h3
  case h_2 => cases h3
  case h_1 jab' sab' jbc sbc jac sac e1' e2' e3 e4 e5 e6 =>
  cases e1'
  cases e2'
  simp only [Bool.and_eq_true] at h2 h3
  obtain ⟨⟨⟨⟨⟨⟨⟨⟨p1, p2⟩, p3⟩, p4⟩, p5⟩, p6⟩, p7⟩, p8⟩, p9⟩ := h2
  obtain ⟨⟨⟨t1, t2⟩, t3⟩, t4⟩ := h3
  split at p9
  case h_2 => cases p9
  case h_1 mj ms ma mb m1 m2 m3 m4 =>
  rw [Bool.and_eq_true] at p9
  obtain ⟨z, hz⟩ := Option.isSome_iff_exists.mp p9.2
  have hz2 := of_decide_eq_true p9.1
  split at t1
  case h_2 => cases t1
  case h_1 x1 f1 =>
  split at t2
  case h_2 => cases t2
  case h_1 x2 f2 =>
  split at t3
  case h_2 => cases t3
  case h_1 x3 f3 =>
  split at t4
  case h_2 => cases t4
  case h_1 x4 f4 =>
  exact ⟨jab, sab, jbc, sbc, jac, sac, x1, x2, x3, x4, mj, ms, ma, mb, z, e1, e2, e3, e4, e5, e6, i1, i2, of_decide_eq_true p1, of_decide_eq_true p2, f1, of_decide_eq_true t1, f2, of_decide_eq_true t2,
    of_decide_eq_true p3, of_decide_eq_true p4, of_decide_eq_true p5, of_decide_eq_true p6, f3, of_decide_eq_true t3, f4, of_decide_eq_true t4, of_decide_eq_true p7, of_decide_eq_true p8, m1, m2, m3, m4, hz, by rw [← hz2]; exact hz⟩
theorem facts {p : Int} (hp : p = 2 ∨ p = 3 ∨ p = 5) {a b c : Row} (ha : a ∈ gensL p) (hb : b ∈ gensL p) (hc : c ∈ gensL p) : Fact p a b c := by
  have h1 : allPairs p = true := by
    rcases hp with rfl | rfl | rfl
    · exact pairs2
    · exact pairs3
    · exact pairs5
  have h2 : ((gensL p).all fun a => tripA p a) = true := by
    rcases hp with rfl | rfl | rfl
    · exact trip2
    · exact trip3
    · exact trip5
  have q := List.all_eq_true.mp h1 a ha
  rw [Bool.and_eq_true] at q
  exact fact_of q.1 (List.all_eq_true.mp q.2 b hb) (List.all_eq_true.mp (List.all_eq_true.mp (List.all_eq_true.mp h2 a ha) b hb) c hc)
/-- the generators of the law's panels -/
theorem small_gen {p : Int} (hp : p = 2 ∨ p = 3 ∨ p = 5) {bs : List Rule} (hl : bs.length = 1 ∨ bs.length = 2) (hr : ∀ r ∈ bs, r ∈ pats p) : panB p bs = true ∧ ∃ g, g ∈ gensL p ∧ genM p bs = some g := by
  have h1 : patC p = true := by
    rcases hp with rfl | rfl | rfl
    · exact patC2
    · exact patC3
    · exact patC5
  have h2 : twoC p = true := by
    rcases hp with rfl | rfl | rfl
    · exact twoC2
    · exact twoC3
    · exact twoC5
  have core : ∀ r ∈ pats p, ∃ c, coreM p r = some c ∧ c ∈ gensL p ∧ ruleB p r = true := fun r h => by
    have q := List.all_eq_true.mp h1 r h
    split at q
    case h_2 => cases q
    case h_1 c e =>
    rw [Bool.and_eq_true] at q
    obtain ⟨g, hg, e2⟩ := List.any_eq_true.mp q.1
    have e3 : g = c := of_decide_eq_true e2
    subst e3
    exact ⟨g, e, hg, q.2⟩
  have pn : panB p bs = true := by
    unfold panB
    rw [Bool.and_eq_true, Bool.and_eq_true, Bool.and_eq_true]
    refine ⟨⟨⟨?_, decide_eq_true (by omega)⟩, decide_eq_true (by omega)⟩, List.all_eq_true.mpr fun r h => ?_⟩
    · rcases hp with rfl | rfl | rfl <;> decide
    · obtain ⟨_, _, _, q⟩ := core r (hr r h)
      exact q
  refine ⟨pn, ?_⟩
  match bs, hl with
  | [r], _ =>
    obtain ⟨c, e, hc, _⟩ := core r (hr r List.mem_cons_self)
    have q := List.all_eq_true.mp h2 c hc
    rw [Bool.and_eq_true] at q
    refine ⟨c, hc, ?_⟩
    unfold genM
    rw [show [r].mapM (coreM p) = some [c] by simp [List.mapM_cons, e]]
    exact of_decide_eq_true q.1
  | [r, r'], _ =>
    obtain ⟨c, e, hc, _⟩ := core r (hr r List.mem_cons_self)
    obtain ⟨c', e', hc', _⟩ := core r' (hr r' (List.mem_cons_of_mem _ List.mem_cons_self))
    have q := List.all_eq_true.mp h2 c hc
    rw [Bool.and_eq_true] at q
    have q2 := List.all_eq_true.mp q.2 c' hc'
    split at q2
    case h_2 => cases q2
    case h_1 x ex =>
    obtain ⟨g, hg, e2⟩ := List.any_eq_true.mp q2
    have e3 : g = x := of_decide_eq_true e2
    subst e3
    refine ⟨g, hg, ?_⟩
    unfold genM
    rw [show [r, r'].mapM (coreM p) = some [c, c'] by simp [List.mapM_cons, e, e']]
    exact ex
  | [], h => simp at h
  | _ :: _ :: _ :: _, h => simp at h
end Evr
set_option Elab.async false
set_option linter.all false
set_option maxRecDepth 100000
set_option maxHeartbeats 8000000
namespace Evr
open PySem PySem.Spec PyProof.Rows L2
section
variable {P : Program} {w : World} {K : PySem.W.Frag} {mg : Str → Option Value} {base : Heap} {f : Addr} {fd : FuncData}
def R_law : List PyData → PyData → Prop := fun ds r => ∃ ns : List Int, ds = [.list (rowsI ns)] ∧ ns.length ≤ 63 ∧ r = .bool true
abbrev N_law : List Str := ["_law_script", "_law_cell", "_law_spring_here", "_law_base_here", "_law_a", "_law_b", "_law_c", "_law_told", "_law_k"]
theorem sc_law : FnScope N_law ["_law_script"] (C8.fnScope s_law) := C8.fnScope_by (by decide +kernel)
abbrev bt : PyData := .bool true
theorem fnok_pure {x : Str} {st : Stmt} {f : Addr} {fd : FuncData} {N ps : List Str} {k : Nat} {R : List PyData → PyData → Prop} (F : C8.Def K mg x st f fd) (S : FnScope N ps (C8.fnScope st)) (len : ∀ ds r, R ds r → ds.length = ps.length)
    (hbody : ∀ (cdv : Value) (A : Around) (outer : List Env) (s : Shared) (H : Hp) (E : XK), Room k (A.deeper (envOfC x (C8.fnScope st) s.heap.objs.size f cdv)) → ∀ ds r, R ds r →
      ∃ t, PSs (cxOf C8.CX0 P w K mg base N x (C8.fnScope st) f cdv A outer s H E).nox (C8.fnBody st) t ∧ ∀ c D, RetOk K c D.rt r → Go K c (startG N.length ds) (t D)) : FnOk P w K mg base C8.CX0 (k + 1) f fd ps (PureF K R) := by
  refine C8.fn0 F.fn S (fun vs H Q E h => ?_) (fun cdv A outer s H vs Q E hr h => ?_)
  · obtain ⟨H0, ds, r, i, hd, hR, _⟩ := h
    rw [dps_len hd]
    exact len ds r hR
  · obtain ⟨H0, ds, r, i, hd, hR, q⟩ := h
    obtain ⟨t, h1, h2⟩ := hbody cdv A outer s H E hr ds r hR
    exact ⟨t, h1, h2 ⟨H0, H0, H⟩ _ (fun v H0' H' a e => q v H0' H' a.from e) H0 _ H (At.start i) (sat_start i hd)⟩
/-- the law's own order of questions -/
theorem ok_law (T : Txt K mg) (F : C8.Def K mg "law" s_law f fd) (b : Binds K fd ["_law_script"] []) (c_spring : C8.Cal P w K mg base 1 "_law_spring" (NewF K R_spring) []) (c_base : C8.Cal P w K mg base 2 "_law_base" (SprF K dom_base R_base) []) (c_small : C8.Cal P w K mg base 3 "_law_small" (SprF K dom_small R_small) [])
    (c_alike : C8.Cal P w K mg base 7 "alike" (PureF K R_alike) []) (c_joined : C8.Cal P w K mg base 8 "joined" (PureF K R_joined) []) (c_shared : C8.Cal P w K mg base 8 "shared" (PureF K R_shared) []) (c_within : C8.Cal P w K mg base 10 "within" (PureF K R_within) [])
    (c_marks : C8.Cal P w K mg base 9 "marks" (PureF K R_marks) []) (c_added : C8.Cal P w K mg base 1 "_law_added" (PureF K R_added) []) : FnOk P w K mg base C8.CX0 11 f fd ["_law_script"] (PureF K R_law) := by
  refine fnok_pure F sc_law (fun ds r h => ?_) (fun cdv A outer s H E hr ds r h => ?_)
  · obtain ⟨_, rfl, _⟩ := h; rfl
  obtain ⟨ns, rfl, hns, rfl⟩ := h
  refine ⟨_, pss_cons (ps_for PassesOwn.never rfl (pi_list (pe_op op_cat (pe_lst (pa_cons (pe_op op_add (pe_op op_pow pe_int pe_int) pe_int) pa_nil)) (pe_slice sl_list (pv 0) po_none (po_some pe_int)))) (pg_name (i := 1) sc_law.nd rfl (by first | exact .inl rfl | exact .inr rfl))
    (pss_cons (ps_set (i := 2) sc_law.nd rfl (by first | exact .inl rfl | exact .inr rfl) (C8.pe_c c_spring hr (by decide) (by rfl) (pa_cons (pv 1) pa_nil)))
    (pss_cons (ps_set (i := 3) sc_law.nd rfl (by first | exact .inl rfl | exact .inr rfl) (C8.pe_c c_base hr (by decide) (by rfl) (pa_cons (pv 2) pa_nil)))
    (pss_cons (ps_asg (pe_lc (own := [("_law_k", 8)]) (g := gName 8) (by rfl) sc_law.nd (pi_range1 (by rfl) T.range_ (pa_cons pe_int pa_nil)) (blkOk_by (N := N_law) (sc := C8.fnScope s_law) (by decide +kernel)) (fun _ _ _ _ _ => pg_name (i := 8) sc_law.nd rfl (.inl rfl)) (fun _ _ _ _ _ => pts_nil) (fun _ _ _ _ _ => (C8.pe_c c_small hr (by decide) (by rfl) (pa_cons (pv 2) (pa_cons (pv 3) pa_nil))))) (pg_unl (by rfl) (pgs_cons (pg_name (i := 4) sc_law.nd rfl (.inl rfl)) (pgs_cons (pg_name (i := 5) sc_law.nd rfl (.inl rfl)) (pgs_cons (pg_name (i := 6) sc_law.nd rfl (.inl rfl)) pgs_nil)))))
    (pss_cons (ps_set (i := 7) sc_law.nd rfl (.inl rfl) (pe_lst (pa_cons (C8.pe_c c_alike hr (by decide) (by rfl) (pa_cons (C8.pe_c c_joined hr (by decide) (by rfl) (pa_cons (pv 4) (pa_cons (pv 4) pa_nil))) (pa_cons (pv 4) pa_nil))) (pa_cons (C8.pe_c c_alike hr (by decide) (by rfl) (pa_cons (C8.pe_c c_shared hr (by decide) (by rfl) (pa_cons (pv 4) (pa_cons (pv 4) pa_nil))) (pa_cons (pv 4) pa_nil))) (pa_cons (C8.pe_c c_alike hr (by decide) (by rfl) (pa_cons (C8.pe_c c_joined hr (by decide) (by rfl) (pa_cons (pv 4) (pa_cons (pv 5) pa_nil))) (pa_cons (C8.pe_c c_joined hr (by decide) (by rfl) (pa_cons (pv 5) (pa_cons (pv 4) pa_nil))) pa_nil))) pa_nil)))))
    (pss_cons (ps_set (i := 7) sc_law.nd rfl (.inl rfl) (pe_op op_cat (pv 7) (pe_lst (pa_cons (C8.pe_c c_alike hr (by decide) (by rfl) (pa_cons (C8.pe_c c_shared hr (by decide) (by rfl) (pa_cons (pv 4) (pa_cons (pv 5) pa_nil))) (pa_cons (C8.pe_c c_shared hr (by decide) (by rfl) (pa_cons (pv 5) (pa_cons (pv 4) pa_nil))) pa_nil))) (pa_cons (C8.pe_c c_alike hr (by decide) (by rfl) (pa_cons (C8.pe_c c_joined hr (by decide) (by rfl) (pa_cons (C8.pe_c c_joined hr (by decide) (by rfl) (pa_cons (pv 4) (pa_cons (pv 5) pa_nil))) (pa_cons (pv 6) pa_nil))) (pa_cons (C8.pe_c c_joined hr (by decide) (by rfl) (pa_cons (pv 4) (pa_cons (C8.pe_c c_joined hr (by decide) (by rfl) (pa_cons (pv 5) (pa_cons (pv 6) pa_nil))) pa_nil))) pa_nil))) pa_nil)))))
    (pss_cons (ps_set (i := 7) sc_law.nd rfl (.inl rfl) (pe_op op_cat (pv 7) (pe_lst (pa_cons (C8.pe_c c_alike hr (by decide) (by rfl) (pa_cons (C8.pe_c c_shared hr (by decide) (by rfl) (pa_cons (C8.pe_c c_shared hr (by decide) (by rfl) (pa_cons (pv 4) (pa_cons (pv 5) pa_nil))) (pa_cons (pv 6) pa_nil))) (pa_cons (C8.pe_c c_shared hr (by decide) (by rfl) (pa_cons (pv 4) (pa_cons (C8.pe_c c_shared hr (by decide) (by rfl) (pa_cons (pv 5) (pa_cons (pv 6) pa_nil))) pa_nil))) pa_nil))) (pa_cons (C8.pe_c c_alike hr (by decide) (by rfl) (pa_cons (C8.pe_c c_joined hr (by decide) (by rfl) (pa_cons (pv 4) (pa_cons (C8.pe_c c_shared hr (by decide) (by rfl) (pa_cons (pv 4) (pa_cons (pv 5) pa_nil))) pa_nil))) (pa_cons (pv 4) pa_nil))) pa_nil)))))
    (pss_cons (ps_set (i := 7) sc_law.nd rfl (.inl rfl) (pe_op op_cat (pv 7) (pe_lst (pa_cons (C8.pe_c c_alike hr (by decide) (by rfl) (pa_cons (C8.pe_c c_shared hr (by decide) (by rfl) (pa_cons (pv 4) (pa_cons (C8.pe_c c_joined hr (by decide) (by rfl) (pa_cons (pv 4) (pa_cons (pv 5) pa_nil))) pa_nil))) (pa_cons (pv 4) pa_nil))) (pa_cons (C8.pe_c c_within hr (by decide) (by rfl) (pa_cons (pv 4) (pa_cons (C8.pe_c c_joined hr (by decide) (by rfl) (pa_cons (pv 4) (pa_cons (pv 5) pa_nil))) pa_nil))) (pa_cons (C8.pe_c c_within hr (by decide) (by rfl) (pa_cons (C8.pe_c c_shared hr (by decide) (by rfl) (pa_cons (pv 4) (pa_cons (pv 5) pa_nil))) (pa_cons (pv 4) pa_nil))) pa_nil))))))
    (pss_cons (ps_expr (pe_bm PySem.F.plainAttrs_list PySem.F.slot_list_append PySem.F.type_list_append mt_append (pv 7) (pa_cons (C8.pe_c c_alike hr (by decide) (by rfl) (pa_cons (C8.pe_c c_shared hr (by decide) (by rfl) (pa_cons (pv 4) (pa_cons (C8.pe_c c_joined hr (by decide) (by rfl) (pa_cons (pv 5) (pa_cons (pv 6) pa_nil))) pa_nil))) (pa_cons (C8.pe_c c_joined hr (by decide) (by rfl) (pa_cons (C8.pe_c c_shared hr (by decide) (by rfl) (pa_cons (pv 4) (pa_cons (pv 5) pa_nil))) (pa_cons (C8.pe_c c_shared hr (by decide) (by rfl) (pa_cons (pv 4) (pa_cons (pv 6) pa_nil))) pa_nil))) pa_nil))) pa_nil)))
    (pss_cons (ps_expr (pe_bm PySem.F.plainAttrs_list PySem.F.slot_list_append PySem.F.type_list_append mt_append (pv 7) (pa_cons (C8.pe_c c_alike hr (by decide) (by rfl) (pa_cons (C8.pe_c c_joined hr (by decide) (by rfl) (pa_cons (pv 4) (pa_cons (C8.pe_c c_shared hr (by decide) (by rfl) (pa_cons (pv 5) (pa_cons (pv 6) pa_nil))) pa_nil))) (pa_cons (C8.pe_c c_shared hr (by decide) (by rfl) (pa_cons (C8.pe_c c_joined hr (by decide) (by rfl) (pa_cons (pv 4) (pa_cons (pv 5) pa_nil))) (pa_cons (C8.pe_c c_joined hr (by decide) (by rfl) (pa_cons (pv 4) (pa_cons (pv 6) pa_nil))) pa_nil))) pa_nil))) pa_nil)))
    (pss_cons (ps_if (pt_cmpR (op_neD hr.units) (pv 7) (pe_op op_rep (pe_lst (pa_cons pe_bl pa_nil)) pe_int) (nomark _)) (pss_one (ps_ret pe_bl)) pss_nil)
    (pss_cons (ps_if (PW.pt (pw_or (pt_cmpR op_ne (C8.pe_c c_within hr (by decide) (by rfl) (pa_cons (pv 4) (pa_cons (pv 5) pa_nil))) (C8.pe_c c_alike hr (by decide) (by rfl) (pa_cons (C8.pe_c c_joined hr (by decide) (by rfl) (pa_cons (pv 4) (pa_cons (pv 5) pa_nil))) (pa_cons (pv 5) pa_nil))) (nomark _)) (pw_or1 (pt_cmpR op_ne (C8.pe_c c_within hr (by decide) (by rfl) (pa_cons (pv 4) (pa_cons (pv 5) pa_nil))) (C8.pe_c c_alike hr (by decide) (by rfl) (pa_cons (C8.pe_c c_shared hr (by decide) (by rfl) (pa_cons (pv 4) (pa_cons (pv 5) pa_nil))) (pa_cons (pv 4) pa_nil))) (nomark _))))) (pss_one (ps_ret pe_bl)) pss_nil)
    (pss_one (ps_if (pt_cmpR (op_neD hr.units) (C8.pe_c c_added hr (by decide) (by rfl) (pa_cons (C8.pe_c c_marks hr (by decide) (by rfl) (pa_cons (C8.pe_c c_joined hr (by decide) (by rfl) (pa_cons (pv 4) (pa_cons (pv 5) pa_nil))) pa_nil)) (pa_cons (C8.pe_c c_marks hr (by decide) (by rfl) (pa_cons (C8.pe_c c_shared hr (by decide) (by rfl) (pa_cons (pv 4) (pa_cons (pv 5) pa_nil))) pa_nil)) pa_nil))) (C8.pe_c c_added hr (by decide) (by rfl) (pa_cons (C8.pe_c c_marks hr (by decide) (by rfl) (pa_cons (pv 4) pa_nil)) (pa_cons (C8.pe_c c_marks hr (by decide) (by rfl) (pa_cons (pv 5) pa_nil)) pa_nil))) (nomark _)) (pss_one (ps_ret pe_bl)) pss_nil)))))))))))))) (pss_one (ps_ret pe_bl)), fun c D k => ?_⟩
  have pw : ∀ {Γ : List Sl}, EvD K (tOp (rI CPow fun i j => .int (i ^ j.toNat)) (tC (.int 10)) (tC (.int 18))) Γ (.int (10 ^ 18)) := fun {Γ} => (ed_i (C := CPow) (g := fun i j => i ^ j.toNat) ed_int ed_int ⟨by decide, by decide, by decide⟩).is rfl
  have hcut : ∀ d ∈ cutD (rowsI ns) none (some 5), ∃ z : Int, d = .int z := fun d hd => by
    unfold cutD at hd
    have h1 := List.mem_of_mem_drop (List.mem_of_mem_take hd)
    obtain ⟨z, _, rfl⟩ := List.mem_map.mp h1
    exact ⟨z, rfl⟩
  have hcl : (cutD (rowsI ns) none (some 5)).length ≤ 63 := by
    unfold cutD
    rw [List.length_take, List.length_drop, len_rows]
    omega
  refine go_seq (go_for (ds := [.int (10 ^ 18 + 1)] ++ cutD (rowsI ns) none (some 5)) (Inv := fun i Γ => ∃ x1 x2 x3 x4 x5 x6 x7 x8, Γ = [.d (.list (rowsI ns)), x1, x2, x3, x4, x5, x6, x7, x8])
    (it_list (EvN.toD (en_cat (ls_new (en_lst (ea_cons (ed_i0 pw ed_int) ea_nil) (by simp))) (ls_new (en_slL (ed_var rfl) eo_none (eo_some ed_int))) (by show 1 + _ ≤ 100000; omega)))) ⟨_, _, _, _, _, _, _, _, rfl⟩ ?_ ?_)
  · rintro b0 hb0 i d Γi e ⟨x1, x2, x3, x4, x5, x6, x7, x8, rfl⟩
    obtain ⟨z, rfl⟩ : ∃ z : Int, d = .int z := by
      rcases List.mem_append.mp (List.mem_of_getElem? e) with h | h
      · exact ⟨_, List.mem_singleton.mp h⟩
      · exact hcut d h
    refine ⟨_, tg_name, ?_⟩
    obtain ⟨sp, h3, hsp⟩ : ∃ sp : List Int, sp.length = 3 ∧ sp = [if 10 ^ 18 ≤ z then z - 10 ^ 18 else 0, (z * 3202034522624059733 + 88172645463325252) % 2305843009213693951, 0] := ⟨_, rfl, rfl⟩
    refine go_seq (go_asgN (es := rowsI sp) (en_call (ea_cons (ed_var rfl) ea_nil) ⟨z, sp, rfl, h3, hsp, rfl⟩) ?_)
    clear hsp
    dsimp only
    change Go K _ [.d (.list (rowsI ns)), .d (.int z), .own (rowsI sp), x3, x4, x5, x6, x7, x8] _
    refine go_seq (go_asgX (i := 2) (s := sp) (pin := none) rfl h3 (ex_call (R := R_base) ⟨sp, none, h3, rfl⟩ (ds := []) ea_nil rfl) (fun d s1 hd h31 => ?_))
    obtain ⟨p, hp, rfl⟩ := hd
    dsimp only
    change Go K _ [.d (.list (rowsI ns)), .d (.int z), .own (rowsI s1), .d (.int p), x4, x5, x6, x7, x8] _
    refine go_seq (go_asgXT (i := 2) (s := s1) (pin := none) (PN := fun es => ∃ ba bb bc, es = [panelD p ba, panelD p bb, panelD p bc] ∧ smallP p ba ∧ smallP p bb ∧ smallP p bc) rfl ?_ (fun es s2 hes h32 => ?_))
    · have zz := ex_lc (K := K) (te := tCall (SprF K dom_small R_small) [] C8.E0 (tCons (tVar 2) (tCons (tVar 3) tNil))) (tt := fun σ H Q => Q true H) (g := gName 8) (vs := [8]) (i := 2) (s := s1) (pin := none) (Γ := [.d (.list (rowsI ns)), .d (.int z), .own (rowsI s1), .d (.int p), x4, x5, x6, x7, x8]) (wi := iRng1 (tCons (tC (.int 3)) tNil)) (ds := rangeD 0 (3 : Int).toNat) (Pe := fun _ y => ∃ bs, smallP p bs ∧ y = panelD p bs) rfl h31 (by decide) (it_range1 (ea_cons ed_int ea_nil) (by decide) (by decide)) (by decide)
        (fun j d e s3 h33 => ⟨_, tw_name (by decide), ts_nil, (ex_call (R := R_small) (i := 2) ⟨s3, none, h33, rfl⟩ (ds := [.int p]) (ea_cons (ed_var (i := 3) rfl) ea_nil) ⟨p, hp, rfl⟩).mono fun d hd => by
          obtain ⟨p', bs, e1, hbs, rfl⟩ := hd
          cases e1
          exact ⟨bs, hbs, rfl⟩⟩)
      exact fun hh H0 σ H q x ep Q qq => zz hh H0 σ H q x ep Q fun r vs es s' H0' H1 ⟨g1, g2⟩ a n1 dd => by
        have g1' : es.length = 3 := g1
        match es, g1' with
        | [y0, y1, y2], _ =>
          obtain ⟨ba, ha, rfl⟩ := g2 0 _ y0 rfl rfl
          obtain ⟨bb, hb, rfl⟩ := g2 1 _ y1 rfl rfl
          obtain ⟨bc, hc, rfl⟩ := g2 2 _ y2 rfl rfl
          exact qq r vs _ s' H0' H1 ⟨ba, bb, bc, rfl, ha, hb, hc⟩ a n1 dd
    obtain ⟨ba, bb, bc, rfl, sa, sb, sc⟩ := hes
    refine ⟨_, tg_lst (tgs_cons tg_name (tgs_cons tg_name (tgs_cons tg_name tgs_nil))) rfl, ?_⟩
    dsimp only
    change Go K _ [.d (.list (rowsI ns)), .d (.int z), .own (rowsI s2), .d (.int p), .d (panelD p ba), .d (panelD p bb), .d (panelD p bc), x7, x8] _
    obtain ⟨pa, ga, ina, ea⟩ := small_gen hp sa.1 sa.2
    obtain ⟨pb, gb, inb, eb⟩ := small_gen hp sb.1 sb.2
    obtain ⟨pc, gc, inc, ec⟩ := small_gen hp sc.1 sc.2
    obtain ⟨jab, sab, jbc, sbc, jac, sac, y1, y2, y3, y4, mj, ms, ma, mb, zz, f1, f2, f3, f4, f5, f6, f7, f8, f9, f10, f11, f12, f13, f14, f15, f16, f17, f18, f19, f20, f21, f22, f23, f24, f25, f26, f27, f28, f29, f30⟩ := (facts hp ina inb inc).ex
    have A : ∀ {Γ : List Sl}, Γ[4]? = some (.d (panelD p ba)) → EvP K (tVar 4) Γ p ga := fun e => ep_var e pa ea
    have B : ∀ {Γ : List Sl}, Γ[5]? = some (.d (panelD p bb)) → EvP K (tVar 5) Γ p gb := fun e => ep_var e pb eb
    have C : ∀ {Γ : List Sl}, Γ[6]? = some (.d (panelD p bc)) → EvP K (tVar 6) Γ p gc := fun e => ep_var e pc ec
    refine go_seq (go_asgN (es := [bt, bt, bt]) (en_lst (ea_cons (ep_yes (ep_j (A rfl) (A rfl) f7) (A rfl)) (ea_cons (ep_yes (ep_s (A rfl) (A rfl) f8) (A rfl)) (ea_cons (ep_yes (ep_j (A rfl) (B rfl) f1) (ep_j (B rfl) (A rfl) f9)) ea_nil))) (by simp)) ?_)
    dsimp only
    refine go_seq (go_asgN (es := [bt, bt, bt, bt, bt]) ((en_cat (ds := [bt, bt, bt]) (es := [bt, bt]) (ls_own (i := 7) rfl) (ls_new (en_lst (ea_cons (ep_yes (ep_s (A rfl) (B rfl) f2) (ep_s (B rfl) (A rfl) f10)) (ea_cons (ep_yes (ep_j (ep_j (A rfl) (B rfl) f1) (C rfl) f11) (ep_j (A rfl) (ep_j (B rfl) (C rfl) f3) f12)) ea_nil)) (by simp))) (by simp)).is rfl) ?_)
    dsimp only
    refine go_seq (go_asgN (es := [bt, bt, bt, bt, bt, bt, bt]) ((en_cat (ds := [bt, bt, bt, bt, bt]) (es := [bt, bt]) (ls_own (i := 7) rfl) (ls_new (en_lst (ea_cons (ep_yes (ep_s (ep_s (A rfl) (B rfl) f2) (C rfl) f13) (ep_s (A rfl) (ep_s (B rfl) (C rfl) f4) f14)) (ea_cons (ep_yes (ep_j (A rfl) (ep_s (A rfl) (B rfl) f2) f15) (A rfl)) ea_nil)) (by simp))) (by simp)).is rfl) ?_)
    dsimp only
    refine go_seq (go_asgN (es := [bt, bt, bt, bt, bt, bt, bt, bt, bt, bt]) ((en_cat (ds := [bt, bt, bt, bt, bt, bt, bt]) (es := [bt, bt, bt]) (ls_own (i := 7) rfl) (ls_new (en_lst (ea_cons (ep_yes (ep_s (A rfl) (ep_j (A rfl) (B rfl) f1) f16) (A rfl)) (ea_cons (ep_wi (A rfl) (ep_j (A rfl) (B rfl) f1) f17) (ea_cons (ep_wi (ep_s (A rfl) (B rfl) f2) (A rfl) f18) ea_nil))) (by simp))) (by simp)).is rfl) ?_)
    dsimp only
    refine go_seq (go_app (i := 7) (xs := [bt, bt, bt, bt, bt, bt, bt, bt, bt, bt]) (d := bt) rfl (ep_yes (ep_s (A rfl) (ep_j (B rfl) (C rfl) f3) f19) (ep_j (ep_s (A rfl) (B rfl) f2) (ep_s (A rfl) (C rfl) f6) f20)) (by simp) ?_)
    dsimp only
    refine go_seq (go_app (i := 7) (xs := [bt, bt, bt, bt, bt, bt, bt, bt, bt, bt, bt]) (d := bt) rfl (ep_yes (ep_j (A rfl) (ep_s (B rfl) (C rfl) f4) f21) (ep_s (ep_j (A rfl) (B rfl) f1) (ep_j (A rfl) (C rfl) f5) f22)) (by simp) ?_)
    dsimp only
    refine go_freeze (i := 7) (es := (List.replicate 12 true).map PyData.bool) rfl ?_
    refine go_seq (go_if (b := false) ((et_test (ed_op (ed_var (i := 7) (d := .list ((List.replicate 12 true).map PyData.bool)) rfl) (EvN.toD (EvN.is (es := (List.replicate 12 true).map PyData.bool) (en_rep (d := bt) (n := 12) (en_lst (ea_cons ed_bl ea_nil) (by simp)) ed_int ⟨by decide, by decide⟩) rfl)) (rd_neD (shaped_bools (List.replicate 12 true)) (shaped_bools (List.replicate 12 true))))).is (by rw [PyData.eqv, eqv_bools]; rfl)) (fun q => by cases q) (fun _ => go_next ?_))
    dsimp only
    refine go_seq (go_if (b := false) (et_or (b1 := false) (b2 := false) ((et_test (ed_op (ep_wi (A rfl) (B rfl) f23) (ep_al (ep_j (A rfl) (B rfl) f1) (B rfl)) rd_neB)).is (by simp)) (fun _ => (et_test (ed_op (ep_wi (A rfl) (B rfl) f24) (ep_al (ep_s (A rfl) (B rfl) f2) (A rfl)) rd_neB)).is (by simp))) (fun q => by cases q) (fun _ => go_next ?_))
    dsimp only
    refine go_if (b := false) ((et_test (ed_op (ed_call (ea_cons (ep_ma (ep_j (A rfl) (B rfl) f1) f25) (ea_cons (ep_ma (ep_s (A rfl) (B rfl) f2) f26) ea_nil)) ⟨mj, ms, zz, rfl, f29, rfl⟩) (ed_call (ea_cons (ep_ma (A rfl) f27) (ea_cons (ep_ma (B rfl) f28) ea_nil)) ⟨ma, mb, zz, rfl, f30, rfl⟩) (rd_neD (shaped_pairs zz) (shaped_pairs zz)))).is (by rw [PyData.eqv, eqv_pairs]; rfl)) (fun q => by cases q) (fun _ => go_next ?_)
    refine go_nx ?_
    exact ⟨_, _, _, _, _, _, _, _, rfl⟩
  · rintro Γn ⟨x1, x2, x3, x4, x5, x6, x7, x8, rfl⟩
    exact go_ret ed_bl k
end
end Evr
set_option Elab.async false
set_option linter.all false
set_option maxRecDepth 100000
set_option maxHeartbeats 4000000
namespace Evr
open PySem PySem.Spec PyProof.Rows L2
structure DefF (K : PySem.W.Frag) (x : Str) (st : Stmt) : Prop where
  ex : ∃ (f : Addr) (oc kV doc pm cdv ct : Value) (od an : Option Addr) (osl : Array (Option Value)), PySem.W.nsIn K mainGlobals x = some (some (.ref f)) ∧ K.lookup f = some ⟨oc, od, .func (PySem.W.fnOf x x (C8.fnArgs st) (C8.fnBody st) (C8.fnScope st) .none kV doc pm an cdv ct), osl⟩ ∧ PySem.W.codeIn K cdv x = true ∧ PySem.W.keepIn K (.ref f) = true
theorem DefF.mk' {K : PySem.W.Frag} {x : Str} {st : Stmt} {f : Addr} {oc kV doc pm cdv ct : Value} {od an : Option Addr} {osl : Array (Option Value)} (a : PySem.W.nsIn K mainGlobals x = some (some (.ref f))) (l : K.lookup f = some ⟨oc, od, .func (PySem.W.fnOf x x (C8.fnArgs st) (C8.fnBody st) (C8.fnScope st) .none kV doc pm an cdv ct), osl⟩) (c : PySem.W.codeIn K cdv x = true) (k : PySem.W.keepIn K (.ref f) = true) : DefF K x st :=
  ⟨f, oc, kV, doc, pm, cdv, ct, od, an, osl, a, l, c, k⟩
/-- all that the walk asks of what the top has left -/
structure Left (K : PySem.W.Frag) : Prop where
  d_is_number : DefF K "is_number" s_is_number
  d_is_whole : DefF K "is_whole" s_is_whole
  d_is_prime : DefF K "is_prime" s_is_prime
  d_is_pair : DefF K "is_pair" s_is_pair
  d_fits_rule : DefF K "fits_rule" s_fits_rule
  d_trimmed : DefF K "trimmed" s_trimmed
  d_inverse : DefF K "inverse" s_inverse
  d_scaled : DefF K "scaled" s_scaled
  d_monic : DefF K "monic" s_monic
  d_timesed : DefF K "timesed" s_timesed
  d_divided : DefF K "divided" s_divided
  d_common_of_two : DefF K "common_of_two" s_common_of_two
  d_gcd_of : DefF K "gcd_of" s_gcd_of
  d_lcm_of : DefF K "lcm_of" s_lcm_of
  d_power_of_x : DefF K "power_of_x" s_power_of_x
  d_of_rule : DefF K "of_rule" s_of_rule
  d_core_of : DefF K "core_of" s_core_of
  d_rows_of_degree : DefF K "rows_of_degree" s_rows_of_degree
  d_factors_of : DefF K "factors_of" s_factors_of
  d_with_last : DefF K "with_last" s_with_last
  d_divisors_that_are_prime : DefF K "divisors_that_are_prime" s_divisors_that_are_prime
  d_order_of_factor : DefF K "order_of_factor" s_order_of_factor
  d_least_power : DefF K "least_power" s_least_power
  d_fits_panel : DefF K "fits_panel" s_fits_panel
  d_need_panel : DefF K "need_panel" s_need_panel
  d_generator_of : DefF K "generator_of" s_generator_of
  d_need_both : DefF K "need_both" s_need_both
  d_parts_of : DefF K "parts_of" s_parts_of
  d_marks_of : DefF K "marks_of" s_marks_of
  d_undivided : DefF K "undivided" s_undivided
  d_picture_of : DefF K "picture_of" s_picture_of
  d_marks : DefF K "marks" s_marks
  d_times_in : DefF K "times_in" s_times_in
  d_outside_on : DefF K "outside_on" s_outside_on
  d_alike : DefF K "alike" s_alike
  d_within : DefF K "within" s_within
  d_joined : DefF K "joined" s_joined
  d_shared : DefF K "shared" s_shared
  d__law_spring : DefF K "_law_spring" s__law_spring
  d__law_take : DefF K "_law_take" s__law_take
  d__law_pat : DefF K "_law_pat" s__law_pat
  d__law_base : DefF K "_law_base" s__law_base
  d__law_small : DefF K "_law_small" s__law_small
  d__law_added : DefF K "_law_added" s__law_added
  d_law : DefF K "law" s_law
  z_isinstance : PySem.W.nsIn K mainGlobals "isinstance" = some none
  z_int : PySem.W.nsIn K mainGlobals "int" = some none
  z_bool : PySem.W.nsIn K mainGlobals "bool" = some none
  z_tuple : PySem.W.nsIn K mainGlobals "tuple" = some none
  z_len : PySem.W.nsIn K mainGlobals "len" = some none
  z_all : PySem.W.nsIn K mainGlobals "all" = some none
  z_range : PySem.W.nsIn K mainGlobals "range" = some none
  z_list : PySem.W.nsIn K mainGlobals "list" = some none
  z_max : PySem.W.nsIn K mainGlobals "max" = some none
  z_min : PySem.W.nsIn K mainGlobals "min" = some none
  z_enumerate : PySem.W.nsIn K mainGlobals "enumerate" = some none
  z_sorted : PySem.W.nsIn K mainGlobals "sorted" = some none
  z_set : PySem.W.nsIn K mainGlobals "set" = some none
  z_any : PySem.W.nsIn K mainGlobals "any" = some none
  z_zip : PySem.W.nsIn K mainGlobals "zip" = some none
  pr : ∃ (a : Addr) (o : Obj) (its : Array Value) (n : Nat), PySem.W.nsIn K mainGlobals "PRIMES" = some (some (.ref a)) ∧ K.lookup a = some o ∧ o.cls = .type "tuple" ∧ o.data = .seq its n ∧ its.size ≤ sizeLine ∧ Vals [.int 2, .int 3, .int 5] its.toList
theorem Left.pr' {K : PySem.W.Frag} {a : Addr} {dd : Option Addr} {its : Array Value} {n : Nat} {sl : Array (Option Value)} (e : PySem.W.nsIn K mainGlobals "PRIMES" = some (some (.ref a))) (l : K.lookup a = some ⟨.type "tuple", dd, .seq its n, sl⟩) (z : its.size ≤ sizeLine) (v : Vals [.int 2, .int 3, .int 5] its.toList) : ∃ (a : Addr) (o : Obj) (its : Array Value) (n : Nat), PySem.W.nsIn K mainGlobals "PRIMES" = some (some (.ref a)) ∧ K.lookup a = some o ∧ o.cls = .type "tuple" ∧ o.data = .seq its n ∧ its.size ≤ sizeLine ∧ Vals [.int 2, .int 3, .int 5] its.toList :=
  ⟨a, _, its, n, e, l, rfl, rfl, z, v⟩
section
variable {P : Program} {w : World} {K : PySem.W.Frag} {mg : Str → Option Value} {base : Heap}
def spLaw (K : PySem.W.Frag) : Sp := fun vs H Q _ => ∃ (a : Addr) (ns : List Int), vs = [.ref a] ∧ SqL K H a (ns.map V.int) ∧ ns.length ≤ 63 ∧ ∀ H', Q (.bl true) H'
theorem DefF.def {h : Heap} {x : Str} {st : Stmt} (X : K.In h) (G : h.Ns mainGlobals mg) (d : DefF K x st) : ∃ (f : Addr) (fd : FuncData), C8.Def K mg x st f fd ∧ fd.defaults = .none ∧
    ∃ (kV doc pm : Value) (an : Option Addr) (cdv ct : Value), fd = PySem.W.fnOf x x (C8.fnArgs st) (C8.fnBody st) (C8.fnScope st) .none kV doc pm an cdv ct := by
  obtain ⟨f, oc, kV, doc, pm, cdv, ct, od, an, osl, a, l, c, k⟩ := d.ex
  exact ⟨f, _, ⟨⟨oc, od, .none, kV, doc, pm, an, cdv, ct, osl, rfl, l, c⟩, PySem.W.mg_of X G a, k⟩, rfl, kV, doc, pm, an, cdv, ct, rfl⟩
theorem law_end {l : PySem.W.OpenLaw} {h : Heap} {fa : Addr} (X : K.In h) (G : h.Ns mainGlobals mg) (hfa : mg "law" = some (.ref fa)) (L : Left K) :
    ∃ fd : FuncData, (∀ (s : Shared) (v : Value), BindsTo s fd ⟨[v], []⟩ [("_law_script", v)]) ∧ ∀ base : Heap, K.In base → base.Ns mainGlobals mg → FnOk l.prog w K mg base C8.CX0 20 fa fd ["_law_script"] (spLaw K) := by
  obtain ⟨fl, fdl, F_law, _, kVl, docl, pml, anl, cdvl, ctl, el⟩ := L.d_law.def X G
  have efa : fl = fa := by
    have e := F_law.mgf
    rw [hfa] at e
    cases e
    rfl
  refine ⟨fdl, fun s v => ?_, fun base hB hG => ?_⟩
  · subst el
    exact BindsTo.of_eq rfl
  obtain ⟨ap, op, itp, np, e1, e2, e3, e4, e5, e6⟩ := L.pr
  have T : Txt K mg := by
    refine ⟨⟨ap, PySem.W.mg_of X G e1, fun H0 => .tup (.inr ⟨op, itp, np, e2, e3, e4, e5, e6⟩) (.cons (.int _) (.cons (.int _) (.cons (.int _) .nil)))⟩, PySem.W.mg_none_of X G L.z_isinstance, PySem.W.mg_none_of X G L.z_int, PySem.W.mg_none_of X G L.z_bool, PySem.W.mg_none_of X G L.z_tuple, PySem.W.mg_none_of X G L.z_len, PySem.W.mg_none_of X G L.z_all, PySem.W.mg_none_of X G L.z_range, PySem.W.mg_none_of X G L.z_list, PySem.W.mg_none_of X G L.z_max, PySem.W.mg_none_of X G L.z_min, PySem.W.mg_none_of X G L.z_enumerate, PySem.W.mg_none_of X G L.z_sorted, PySem.W.mg_none_of X G L.z_set, PySem.W.mg_none_of X G L.z_any, PySem.W.mg_none_of X G L.z_zip⟩
  obtain ⟨f_is_number, fd_is_number, F_is_number, D_is_number, _⟩ := L.d_is_number.def X G
  have b_is_number : Binds K fd_is_number ["value"] [] := F_is_number.fn.binds D_is_number (fun _ _ _ _ _ _ us hl => match us, hl with | [_], _ => rfl)
  have c_is_number := ok_is_number (P := l.prog) (w := w) (base := base) T F_is_number b_is_number
  obtain ⟨f_is_whole, fd_is_whole, F_is_whole, D_is_whole, _⟩ := L.d_is_whole.def X G
  have b_is_whole : Binds K fd_is_whole ["value", "low", "high"] [] := F_is_whole.fn.binds D_is_whole (fun _ _ _ _ _ _ us hl => match us, hl with | [_, _, _], _ => rfl)
  have c_is_whole := ok_is_whole (P := l.prog) (w := w) (base := base) T F_is_whole b_is_whole c_is_number
  obtain ⟨f_is_prime, fd_is_prime, F_is_prime, D_is_prime, _⟩ := L.d_is_prime.def X G
  have b_is_prime : Binds K fd_is_prime ["value"] [] := F_is_prime.fn.binds D_is_prime (fun _ _ _ _ _ _ us hl => match us, hl with | [_], _ => rfl)
  have c_is_prime := ok_is_prime (P := l.prog) (w := w) (base := base) T F_is_prime b_is_prime c_is_number
  obtain ⟨f_is_pair, fd_is_pair, F_is_pair, D_is_pair, _⟩ := L.d_is_pair.def X G
  have b_is_pair : Binds K fd_is_pair ["prime", "value"] [] := F_is_pair.fn.binds D_is_pair (fun _ _ _ _ _ _ us hl => match us, hl with | [_, _], _ => rfl)
  have c_is_pair := ok_is_pair (P := l.prog) (w := w) (base := base) T F_is_pair b_is_pair c_is_number c_is_whole
  obtain ⟨f_fits_rule, fd_fits_rule, F_fits_rule, D_fits_rule, _⟩ := L.d_fits_rule.def X G
  have b_fits_rule : Binds K fd_fits_rule ["prime", "value"] [] := F_fits_rule.fn.binds D_fits_rule (fun _ _ _ _ _ _ us hl => match us, hl with | [_, _], _ => rfl)
  have c_fits_rule := ok_fits_rule (P := l.prog) (w := w) (base := base) T F_fits_rule b_fits_rule c_is_pair
  obtain ⟨f_trimmed, fd_trimmed, F_trimmed, D_trimmed, _⟩ := L.d_trimmed.def X G
  have b_trimmed : Binds K fd_trimmed ["row"] [] := F_trimmed.fn.binds D_trimmed (fun _ _ _ _ _ _ us hl => match us, hl with | [_], _ => rfl)
  have c_trimmed := ok_trimmed (P := l.prog) (w := w) (base := base) T F_trimmed b_trimmed
  obtain ⟨f_inverse, fd_inverse, F_inverse, D_inverse, _⟩ := L.d_inverse.def X G
  have b_inverse : Binds K fd_inverse ["prime", "colour"] [] := F_inverse.fn.binds D_inverse (fun _ _ _ _ _ _ us hl => match us, hl with | [_, _], _ => rfl)
  have c_inverse := ok_inverse (P := l.prog) (w := w) (base := base) T F_inverse b_inverse
  obtain ⟨f_scaled, fd_scaled, F_scaled, D_scaled, _⟩ := L.d_scaled.def X G
  have b_scaled : Binds K fd_scaled ["prime", "row", "colour"] [] := F_scaled.fn.binds D_scaled (fun _ _ _ _ _ _ us hl => match us, hl with | [_, _, _], _ => rfl)
  have c_scaled := ok_scaled (P := l.prog) (w := w) (base := base) T F_scaled b_scaled c_trimmed
  obtain ⟨f_monic, fd_monic, F_monic, D_monic, _⟩ := L.d_monic.def X G
  have b_monic : Binds K fd_monic ["prime", "row"] [] := F_monic.fn.binds D_monic (fun _ _ _ _ _ _ us hl => match us, hl with | [_, _], _ => rfl)
  have c_monic := ok_monic (P := l.prog) (w := w) (base := base) F_monic b_monic c_inverse c_scaled
  obtain ⟨f_timesed, fd_timesed, F_timesed, D_timesed, _⟩ := L.d_timesed.def X G
  have b_timesed : Binds K fd_timesed ["prime", "one", "other"] [] := F_timesed.fn.binds D_timesed (fun _ _ _ _ _ _ us hl => match us, hl with | [_, _, _], _ => rfl)
  have c_timesed := ok_timesed (P := l.prog) (w := w) (base := base) T F_timesed b_timesed c_trimmed
  obtain ⟨f_divided, fd_divided, F_divided, D_divided, _⟩ := L.d_divided.def X G
  have b_divided : Binds K fd_divided ["prime", "one", "other"] [] := F_divided.fn.binds D_divided (fun _ _ _ _ _ _ us hl => match us, hl with | [_, _, _], _ => rfl)
  have c_divided := ok_divided (P := l.prog) (w := w) (base := base) T F_divided b_divided c_trimmed c_inverse
  obtain ⟨f_common_of_two, fd_common_of_two, F_common_of_two, D_common_of_two, _⟩ := L.d_common_of_two.def X G
  have b_common_of_two : Binds K fd_common_of_two ["prime", "one", "other"] [] := F_common_of_two.fn.binds D_common_of_two (fun _ _ _ _ _ _ us hl => match us, hl with | [_, _, _], _ => rfl)
  have c_common_of_two := ok_common_of_two (P := l.prog) (w := w) (base := base) F_common_of_two b_common_of_two c_monic c_divided
  obtain ⟨f_gcd_of, fd_gcd_of, F_gcd_of, D_gcd_of, _⟩ := L.d_gcd_of.def X G
  have b_gcd_of : Binds K fd_gcd_of ["prime", "rows"] [] := F_gcd_of.fn.binds D_gcd_of (fun _ _ _ _ _ _ us hl => match us, hl with | [_, _], _ => rfl)
  have c_gcd_of := ok_gcd_of (P := l.prog) (w := w) (base := base) F_gcd_of b_gcd_of c_common_of_two
  obtain ⟨f_lcm_of, fd_lcm_of, F_lcm_of, D_lcm_of, _⟩ := L.d_lcm_of.def X G
  have b_lcm_of : Binds K fd_lcm_of ["prime", "rows"] [] := F_lcm_of.fn.binds D_lcm_of (fun _ _ _ _ _ _ us hl => match us, hl with | [_, _], _ => rfl)
  have c_lcm_of := ok_lcm_of (P := l.prog) (w := w) (base := base) F_lcm_of b_lcm_of c_common_of_two c_divided c_timesed c_monic
  obtain ⟨f_power_of_x, fd_power_of_x, F_power_of_x, D_power_of_x, _⟩ := L.d_power_of_x.def X G
  have b_power_of_x : Binds K fd_power_of_x ["prime", "many", "modulus"] [] := F_power_of_x.fn.binds D_power_of_x (fun _ _ _ _ _ _ us hl => match us, hl with | [_, _, _], _ => rfl)
  have c_power_of_x := ok_power_of_x (P := l.prog) (w := w) (base := base) F_power_of_x b_power_of_x c_divided c_timesed
  obtain ⟨f_of_rule, fd_of_rule, F_of_rule, D_of_rule, _⟩ := L.d_of_rule.def X G
  have b_of_rule : Binds K fd_of_rule ["rule"] [] := F_of_rule.fn.binds D_of_rule (fun _ _ _ _ _ _ us hl => match us, hl with | [_], _ => rfl)
  have c_of_rule := ok_of_rule (P := l.prog) (w := w) (base := base) T F_of_rule b_of_rule
  obtain ⟨f_core_of, fd_core_of, F_core_of, D_core_of, _⟩ := L.d_core_of.def X G
  have b_core_of : Binds K fd_core_of ["prime", "rule"] [] := F_core_of.fn.binds D_core_of (fun _ _ _ _ _ _ us hl => match us, hl with | [_, _], _ => rfl)
  have c_core_of := ok_core_of (P := l.prog) (w := w) (base := base) F_core_of b_core_of c_of_rule c_monic
  obtain ⟨f_rows_of_degree, fd_rows_of_degree, F_rows_of_degree, D_rows_of_degree, _⟩ := L.d_rows_of_degree.def X G
  have b_rows_of_degree : Binds K fd_rows_of_degree ["prime", "degree"] [] := F_rows_of_degree.fn.binds D_rows_of_degree (fun _ _ _ _ _ _ us hl => match us, hl with | [_, _], _ => rfl)
  have c_rows_of_degree := ok_rows_of_degree (P := l.prog) (w := w) (base := base) T F_rows_of_degree b_rows_of_degree
  obtain ⟨f_with_last, fd_with_last, F_with_last, D_with_last, _⟩ := L.d_with_last.def X G
  have b_with_last : Binds K fd_with_last ["found", "rest"] [] := F_with_last.fn.binds D_with_last (fun _ _ _ _ _ _ us hl => match us, hl with | [_, _], _ => rfl)
  have c_with_last := ok_with_last (P := l.prog) (w := w) (base := base) T F_with_last b_with_last
  obtain ⟨f_factors_of, fd_factors_of, F_factors_of, D_factors_of, _⟩ := L.d_factors_of.def X G
  have b_factors_of : Binds K fd_factors_of ["prime", "polynomial"] [] := F_factors_of.fn.binds D_factors_of (fun _ _ _ _ _ _ us hl => match us, hl with | [_, _], _ => rfl)
  have c_factors_of := ok_factors_of (P := l.prog) (w := w) (base := base) T F_factors_of b_factors_of c_divided c_rows_of_degree c_with_last
  obtain ⟨f_divisors_that_are_prime, fd_divisors_that_are_prime, F_divisors_that_are_prime, D_divisors_that_are_prime, _⟩ := L.d_divisors_that_are_prime.def X G
  have b_divisors_that_are_prime : Binds K fd_divisors_that_are_prime ["number"] [] := F_divisors_that_are_prime.fn.binds D_divisors_that_are_prime (fun _ _ _ _ _ _ us hl => match us, hl with | [_], _ => rfl)
  have c_divisors_that_are_prime := ok_divisors_that_are_prime (P := l.prog) (w := w) (base := base) F_divisors_that_are_prime b_divisors_that_are_prime
  obtain ⟨f_order_of_factor, fd_order_of_factor, F_order_of_factor, D_order_of_factor, _⟩ := L.d_order_of_factor.def X G
  have b_order_of_factor : Binds K fd_order_of_factor ["prime", "factor"] [] := F_order_of_factor.fn.binds D_order_of_factor (fun _ _ _ _ _ _ us hl => match us, hl with | [_, _], _ => rfl)
  have c_order_of_factor := ok_order_of_factor (P := l.prog) (w := w) (base := base) T F_order_of_factor b_order_of_factor c_divided c_divisors_that_are_prime c_power_of_x
  obtain ⟨f_least_power, fd_least_power, F_least_power, D_least_power, _⟩ := L.d_least_power.def X G
  have b_least_power : Binds K fd_least_power ["prime", "bound"] [] := F_least_power.fn.binds D_least_power (fun _ _ _ _ _ _ us hl => match us, hl with | [_, _], _ => rfl)
  have c_least_power := ok_least_power (P := l.prog) (w := w) (base := base) F_least_power b_least_power
  obtain ⟨f_fits_panel, fd_fits_panel, F_fits_panel, D_fits_panel, _⟩ := L.d_fits_panel.def X G
  have b_fits_panel : Binds K fd_fits_panel ["value"] [] := F_fits_panel.fn.binds D_fits_panel (fun _ _ _ _ _ _ us hl => match us, hl with | [_], _ => rfl)
  have c_fits_panel := ok_fits_panel (P := l.prog) (w := w) (base := base) T F_fits_panel b_fits_panel c_is_prime c_fits_rule
  obtain ⟨f_need_panel, fd_need_panel, F_need_panel, D_need_panel, _⟩ := L.d_need_panel.def X G
  have b_need_panel : Binds K fd_need_panel ["panel"] [] := F_need_panel.fn.binds D_need_panel (fun _ _ _ _ _ _ us hl => match us, hl with | [_], _ => rfl)
  have c_need_panel := ok_need_panel (P := l.prog) (w := w) (base := base) F_need_panel b_need_panel c_fits_panel
  obtain ⟨f_generator_of, fd_generator_of, F_generator_of, D_generator_of, _⟩ := L.d_generator_of.def X G
  have b_generator_of : Binds K fd_generator_of ["panel"] [] := F_generator_of.fn.binds D_generator_of (fun _ _ _ _ _ _ us hl => match us, hl with | [_], _ => rfl)
  have c_generator_of := ok_generator_of (P := l.prog) (w := w) (base := base) F_generator_of b_generator_of c_gcd_of c_core_of
  obtain ⟨f_need_both, fd_need_both, F_need_both, D_need_both, _⟩ := L.d_need_both.def X G
  have b_need_both : Binds K fd_need_both ["one", "other"] [] := F_need_both.fn.binds D_need_both (fun _ _ _ _ _ _ us hl => match us, hl with | [_, _], _ => rfl)
  have c_need_both := ok_need_both (P := l.prog) (w := w) (base := base) F_need_both b_need_both c_need_panel
  obtain ⟨f_parts_of, fd_parts_of, F_parts_of, D_parts_of, _⟩ := L.d_parts_of.def X G
  have b_parts_of : Binds K fd_parts_of ["panel"] [] := F_parts_of.fn.binds D_parts_of (fun _ _ _ _ _ _ us hl => match us, hl with | [_], _ => rfl)
  have c_parts_of := ok_parts_of (P := l.prog) (w := w) (base := base) F_parts_of b_parts_of c_generator_of c_factors_of c_order_of_factor
  obtain ⟨f_marks_of, fd_marks_of, F_marks_of, D_marks_of, _⟩ := L.d_marks_of.def X G
  have b_marks_of : Binds K fd_marks_of ["panel"] [] := F_marks_of.fn.binds D_marks_of (fun _ _ _ _ _ _ us hl => match us, hl with | [_], _ => rfl)
  have c_marks_of := ok_marks_of (P := l.prog) (w := w) (base := base) T F_marks_of b_marks_of c_parts_of
  obtain ⟨f_undivided, fd_undivided, F_undivided, D_undivided, _⟩ := L.d_undivided.def X G
  have b_undivided : Binds K fd_undivided ["numbers"] [] := F_undivided.fn.binds D_undivided (fun _ _ _ _ _ _ us hl => match us, hl with | [_], _ => rfl)
  have c_undivided := ok_undivided (P := l.prog) (w := w) (base := base) T F_undivided b_undivided
  obtain ⟨f_picture_of, fd_picture_of, F_picture_of, D_picture_of, _⟩ := L.d_picture_of.def X G
  have b_picture_of : Binds K fd_picture_of ["row"] [] := F_picture_of.fn.binds D_picture_of (fun _ _ _ _ _ _ us hl => match us, hl with | [_], _ => rfl)
  have c_picture_of := ok_picture_of (P := l.prog) (w := w) (base := base) T F_picture_of b_picture_of
  obtain ⟨f_marks, fd_marks, F_marks, D_marks, _⟩ := L.d_marks.def X G
  have b_marks : Binds K fd_marks ["panel"] [] := F_marks.fn.binds D_marks (fun _ _ _ _ _ _ us hl => match us, hl with | [_], _ => rfl)
  have c_marks := ok_marks (P := l.prog) (w := w) (base := base) F_marks b_marks c_need_panel c_marks_of
  obtain ⟨f_times_in, fd_times_in, F_times_in, D_times_in, _⟩ := L.d_times_in.def X G
  have b_times_in : Binds K fd_times_in ["one", "other"] [] := F_times_in.fn.binds D_times_in (fun _ _ _ _ _ _ us hl => match us, hl with | [_, _], _ => rfl)
  have c_times_in := ok_times_in (P := l.prog) (w := w) (base := base) F_times_in b_times_in c_parts_of
  obtain ⟨f_outside_on, fd_outside_on, F_outside_on, D_outside_on, _⟩ := L.d_outside_on.def X G
  have b_outside_on : Binds K fd_outside_on ["one", "other"] [] := F_outside_on.fn.binds D_outside_on (fun _ _ _ _ _ _ us hl => match us, hl with | [_, _], _ => rfl)
  have c_outside_on := ok_outside_on (P := l.prog) (w := w) (base := base) F_outside_on b_outside_on c_times_in c_least_power c_undivided
  obtain ⟨f_alike, fd_alike, F_alike, D_alike, _⟩ := L.d_alike.def X G
  have b_alike : Binds K fd_alike ["one", "other"] [] := F_alike.fn.binds D_alike (fun _ _ _ _ _ _ us hl => match us, hl with | [_, _], _ => rfl)
  have c_alike := ok_alike (P := l.prog) (w := w) (base := base) F_alike b_alike c_need_panel c_generator_of
  obtain ⟨f_within, fd_within, F_within, D_within, _⟩ := L.d_within.def X G
  have b_within : Binds K fd_within ["one", "other"] [] := F_within.fn.binds D_within (fun _ _ _ _ _ _ us hl => match us, hl with | [_, _], _ => rfl)
  have c_within := ok_within (P := l.prog) (w := w) (base := base) F_within b_within c_need_both c_outside_on
  obtain ⟨f_joined, fd_joined, F_joined, D_joined, _⟩ := L.d_joined.def X G
  have b_joined : Binds K fd_joined ["one", "other"] [] := F_joined.fn.binds D_joined (fun _ _ _ _ _ _ us hl => match us, hl with | [_, _], _ => rfl)
  have c_joined := ok_joined (P := l.prog) (w := w) (base := base) F_joined b_joined c_need_both c_generator_of c_gcd_of c_picture_of
  obtain ⟨f_shared, fd_shared, F_shared, D_shared, _⟩ := L.d_shared.def X G
  have b_shared : Binds K fd_shared ["one", "other"] [] := F_shared.fn.binds D_shared (fun _ _ _ _ _ _ us hl => match us, hl with | [_, _], _ => rfl)
  have c_shared := ok_shared (P := l.prog) (w := w) (base := base) F_shared b_shared c_need_both c_generator_of c_lcm_of c_picture_of
  obtain ⟨f__law_spring, fd__law_spring, F__law_spring, D__law_spring, _⟩ := L.d__law_spring.def X G
  have b__law_spring : Binds K fd__law_spring ["_law_cell"] [] := F__law_spring.fn.binds D__law_spring (fun _ _ _ _ _ _ us hl => match us, hl with | [_], _ => rfl)
  have c__law_spring := ok_spring (P := l.prog) (w := w) (base := base) T F__law_spring b__law_spring
  obtain ⟨f__law_take, fd__law_take, F__law_take, D__law_take, _⟩ := L.d__law_take.def X G
  have b__law_take : Binds K fd__law_take ["_law_spring_here", "_law_count"] [] := F__law_take.fn.binds D__law_take (fun _ _ _ _ _ _ us hl => match us, hl with | [_, _], _ => rfl)
  have c__law_take := ok_take (P := l.prog) (w := w) (base := base) T F__law_take b__law_take
  obtain ⟨f__law_pat, fd__law_pat, F__law_pat, D__law_pat, _⟩ := L.d__law_pat.def X G
  have b__law_pat : Binds K fd__law_pat ["_law_spring_here", "_law_base_here", "_law_far", "_law_most"] [] := F__law_pat.fn.binds D__law_pat (fun _ _ _ _ _ _ us hl => match us, hl with | [_, _, _, _], _ => rfl)
  have c__law_pat := ok_pat (P := l.prog) (w := w) (base := base) T F__law_pat b__law_pat c__law_take
  obtain ⟨f__law_base, fd__law_base, F__law_base, D__law_base, _⟩ := L.d__law_base.def X G
  have b__law_base : Binds K fd__law_base ["_law_spring_here"] [] := F__law_base.fn.binds D__law_base (fun _ _ _ _ _ _ us hl => match us, hl with | [_], _ => rfl)
  have c__law_base := ok_base (P := l.prog) (w := w) (base := base) F__law_base b__law_base c__law_take
  obtain ⟨f__law_small, fd__law_small, F__law_small, D__law_small, _⟩ := L.d__law_small.def X G
  have b__law_small : Binds K fd__law_small ["_law_spring_here", "_law_base_here"] [] := F__law_small.fn.binds D__law_small (fun _ _ _ _ _ _ us hl => match us, hl with | [_, _], _ => rfl)
  have c__law_small := ok_small (P := l.prog) (w := w) (base := base) T F__law_small b__law_small c__law_take c__law_pat
  obtain ⟨f__law_added, fd__law_added, F__law_added, D__law_added, _⟩ := L.d__law_added.def X G
  have b__law_added : Binds K fd__law_added ["_law_first", "_law_second"] [] := F__law_added.fn.binds D__law_added (fun _ _ _ _ _ _ us hl => match us, hl with | [_, _], _ => rfl)
  have c__law_added := ok_added (P := l.prog) (w := w) (base := base) T F__law_added b__law_added
  have b_law : Binds K fdl ["_law_script"] [] := by
    subst el
    exact .all fun us hl => match us, hl with | [_], _ => rfl
  have z := ok_law (P := l.prog) (w := w) (base := base) T F_law b_law c__law_spring c__law_base c__law_small c_alike c_joined c_shared c_within c_marks c__law_added
  subst efa
  refine (z.mono (by decide)).imp fun vs H Q E hsp => ?_
  obtain ⟨a, ns, rfl, hs, hl, q⟩ := hsp
  exact ⟨H, [.list (rowsI ns)], .bool true, Same.refl _, .cons (.lst hs (dps_ints ns)) .nil, ⟨ns, rfl, hl, rfl⟩, fun v H0' H' a e => by
    rw [dp_bl e]
    exact q H'⟩
end
end Evr
open PySem PySem.W PyProof.Rows
set_option maxHeartbeats 0 in
theorem PySem.Challenge.cw_everyring_k32_whole_joined_and_shared_holds : PySem.Challenge.rw_everyring_k32_whole_joined_and_shared.Holds := by
  w_on; o_law; k_head; (case hw => w_witness2)
  k_fill
  refine L2.walk_of (l := PySem.Challenge.rw_everyring_k32_whole_joined_and_shared) (n := 63) (k := 20) (x := "_law_script") (CX := fun _ => C8.CX0) (sp := fun w => Evr.spLaw _) rfl (by decide) rfl ⟨rfl, by decide, by decide⟩ (fun w h Y => PySem.W.kIn_of Y) ?F (fun _ _ a ns hl _ hS => ⟨a, ns, rfl, hS, hl, fun _ => rfl⟩) (fun _ _ _ _ _ h => h)
  case F =>
    intro w mg fa h KX G hmg
    refine Evr.law_end KX G hmg ?_
    refine Evr.Left.mk ?d_is_number ?d_is_whole ?d_is_prime ?d_is_pair ?d_fits_rule ?d_trimmed ?d_inverse ?d_scaled ?d_monic ?d_timesed ?d_divided ?d_common_of_two ?d_gcd_of ?d_lcm_of ?d_power_of_x ?d_of_rule ?d_core_of ?d_rows_of_degree ?d_factors_of ?d_with_last ?d_divisors_that_are_prime ?d_order_of_factor ?d_least_power ?d_fits_panel ?d_need_panel ?d_generator_of ?d_need_both ?d_parts_of ?d_marks_of ?d_undivided ?d_picture_of ?d_marks ?d_times_in ?d_outside_on ?d_alike ?d_within ?d_joined ?d_shared ?d__law_spring ?d__law_take ?d__law_pat ?d__law_base ?d__law_small ?d__law_added ?d_law ?z_isinstance ?z_int ?z_bool ?z_tuple ?z_len ?z_all ?z_range ?z_list ?z_max ?z_min ?z_enumerate ?z_sorted ?z_set ?z_any ?z_zip ?pr
    (case d_is_number => (refine' Evr.DefF.mk' ?a ?l ?c ?k; (case a => k_is); (case l => k_is); (case c => k_is); (case k => k_is)))
    (case d_is_whole => (refine' Evr.DefF.mk' ?a ?l ?c ?k; (case a => k_is); (case l => k_is); (case c => k_is); (case k => k_is)))
    (case d_is_prime => (refine' Evr.DefF.mk' ?a ?l ?c ?k; (case a => k_is); (case l => k_is); (case c => k_is); (case k => k_is)))
    (case d_is_pair => (refine' Evr.DefF.mk' ?a ?l ?c ?k; (case a => k_is); (case l => k_is); (case c => k_is); (case k => k_is)))
    (case d_fits_rule => (refine' Evr.DefF.mk' ?a ?l ?c ?k; (case a => k_is); (case l => k_is); (case c => k_is); (case k => k_is)))
    (case d_trimmed => (refine' Evr.DefF.mk' ?a ?l ?c ?k; (case a => k_is); (case l => k_is); (case c => k_is); (case k => k_is)))
    (case d_inverse => (refine' Evr.DefF.mk' ?a ?l ?c ?k; (case a => k_is); (case l => k_is); (case c => k_is); (case k => k_is)))
    (case d_scaled => (refine' Evr.DefF.mk' ?a ?l ?c ?k; (case a => k_is); (case l => k_is); (case c => k_is); (case k => k_is)))
    (case d_monic => (refine' Evr.DefF.mk' ?a ?l ?c ?k; (case a => k_is); (case l => k_is); (case c => k_is); (case k => k_is)))
    (case d_timesed => (refine' Evr.DefF.mk' ?a ?l ?c ?k; (case a => k_is); (case l => k_is); (case c => k_is); (case k => k_is)))
    (case d_divided => (refine' Evr.DefF.mk' ?a ?l ?c ?k; (case a => k_is); (case l => k_is); (case c => k_is); (case k => k_is)))
    (case d_common_of_two => (refine' Evr.DefF.mk' ?a ?l ?c ?k; (case a => k_is); (case l => k_is); (case c => k_is); (case k => k_is)))
    (case d_gcd_of => (refine' Evr.DefF.mk' ?a ?l ?c ?k; (case a => k_is); (case l => k_is); (case c => k_is); (case k => k_is)))
    (case d_lcm_of => (refine' Evr.DefF.mk' ?a ?l ?c ?k; (case a => k_is); (case l => k_is); (case c => k_is); (case k => k_is)))
    (case d_power_of_x => (refine' Evr.DefF.mk' ?a ?l ?c ?k; (case a => k_is); (case l => k_is); (case c => k_is); (case k => k_is)))
    (case d_of_rule => (refine' Evr.DefF.mk' ?a ?l ?c ?k; (case a => k_is); (case l => k_is); (case c => k_is); (case k => k_is)))
    (case d_core_of => (refine' Evr.DefF.mk' ?a ?l ?c ?k; (case a => k_is); (case l => k_is); (case c => k_is); (case k => k_is)))
    (case d_rows_of_degree => (refine' Evr.DefF.mk' ?a ?l ?c ?k; (case a => k_is); (case l => k_is); (case c => k_is); (case k => k_is)))
    (case d_factors_of => (refine' Evr.DefF.mk' ?a ?l ?c ?k; (case a => k_is); (case l => k_is); (case c => k_is); (case k => k_is)))
    (case d_with_last => (refine' Evr.DefF.mk' ?a ?l ?c ?k; (case a => k_is); (case l => k_is); (case c => k_is); (case k => k_is)))
    (case d_divisors_that_are_prime => (refine' Evr.DefF.mk' ?a ?l ?c ?k; (case a => k_is); (case l => k_is); (case c => k_is); (case k => k_is)))
    (case d_order_of_factor => (refine' Evr.DefF.mk' ?a ?l ?c ?k; (case a => k_is); (case l => k_is); (case c => k_is); (case k => k_is)))
    (case d_least_power => (refine' Evr.DefF.mk' ?a ?l ?c ?k; (case a => k_is); (case l => k_is); (case c => k_is); (case k => k_is)))
    (case d_fits_panel => (refine' Evr.DefF.mk' ?a ?l ?c ?k; (case a => k_is); (case l => k_is); (case c => k_is); (case k => k_is)))
    (case d_need_panel => (refine' Evr.DefF.mk' ?a ?l ?c ?k; (case a => k_is); (case l => k_is); (case c => k_is); (case k => k_is)))
    (case d_generator_of => (refine' Evr.DefF.mk' ?a ?l ?c ?k; (case a => k_is); (case l => k_is); (case c => k_is); (case k => k_is)))
    (case d_need_both => (refine' Evr.DefF.mk' ?a ?l ?c ?k; (case a => k_is); (case l => k_is); (case c => k_is); (case k => k_is)))
    (case d_parts_of => (refine' Evr.DefF.mk' ?a ?l ?c ?k; (case a => k_is); (case l => k_is); (case c => k_is); (case k => k_is)))
    (case d_marks_of => (refine' Evr.DefF.mk' ?a ?l ?c ?k; (case a => k_is); (case l => k_is); (case c => k_is); (case k => k_is)))
    (case d_undivided => (refine' Evr.DefF.mk' ?a ?l ?c ?k; (case a => k_is); (case l => k_is); (case c => k_is); (case k => k_is)))
    (case d_picture_of => (refine' Evr.DefF.mk' ?a ?l ?c ?k; (case a => k_is); (case l => k_is); (case c => k_is); (case k => k_is)))
    (case d_marks => (refine' Evr.DefF.mk' ?a ?l ?c ?k; (case a => k_is); (case l => k_is); (case c => k_is); (case k => k_is)))
    (case d_times_in => (refine' Evr.DefF.mk' ?a ?l ?c ?k; (case a => k_is); (case l => k_is); (case c => k_is); (case k => k_is)))
    (case d_outside_on => (refine' Evr.DefF.mk' ?a ?l ?c ?k; (case a => k_is); (case l => k_is); (case c => k_is); (case k => k_is)))
    (case d_alike => (refine' Evr.DefF.mk' ?a ?l ?c ?k; (case a => k_is); (case l => k_is); (case c => k_is); (case k => k_is)))
    (case d_within => (refine' Evr.DefF.mk' ?a ?l ?c ?k; (case a => k_is); (case l => k_is); (case c => k_is); (case k => k_is)))
    (case d_joined => (refine' Evr.DefF.mk' ?a ?l ?c ?k; (case a => k_is); (case l => k_is); (case c => k_is); (case k => k_is)))
    (case d_shared => (refine' Evr.DefF.mk' ?a ?l ?c ?k; (case a => k_is); (case l => k_is); (case c => k_is); (case k => k_is)))
    (case d__law_spring => (refine' Evr.DefF.mk' ?a ?l ?c ?k; (case a => k_is); (case l => k_is); (case c => k_is); (case k => k_is)))
    (case d__law_take => (refine' Evr.DefF.mk' ?a ?l ?c ?k; (case a => k_is); (case l => k_is); (case c => k_is); (case k => k_is)))
    (case d__law_pat => (refine' Evr.DefF.mk' ?a ?l ?c ?k; (case a => k_is); (case l => k_is); (case c => k_is); (case k => k_is)))
    (case d__law_base => (refine' Evr.DefF.mk' ?a ?l ?c ?k; (case a => k_is); (case l => k_is); (case c => k_is); (case k => k_is)))
    (case d__law_small => (refine' Evr.DefF.mk' ?a ?l ?c ?k; (case a => k_is); (case l => k_is); (case c => k_is); (case k => k_is)))
    (case d__law_added => (refine' Evr.DefF.mk' ?a ?l ?c ?k; (case a => k_is); (case l => k_is); (case c => k_is); (case k => k_is)))
    (case d_law => (refine' Evr.DefF.mk' ?a ?l ?c ?k; (case a => k_is); (case l => k_is); (case c => k_is); (case k => k_is)))
    (case z_isinstance => k_is)
    (case z_int => k_is)
    (case z_bool => k_is)
    (case z_tuple => k_is)
    (case z_len => k_is)
    (case z_all => k_is)
    (case z_range => k_is)
    (case z_list => k_is)
    (case z_max => k_is)
    (case z_min => k_is)
    (case z_enumerate => k_is)
    (case z_sorted => k_is)
    (case z_set => k_is)
    (case z_any => k_is)
    (case z_zip => k_is)
    (case pr => (refine' Evr.Left.pr' ?a ?l ?e3 ?e4; (case a => k_is); (case l => k_is); (case e3 => decide); (case e4 => exact .cons ⟨_, rfl⟩ (.cons ⟨_, rfl⟩ (.cons ⟨_, rfl⟩ .nil)))))
