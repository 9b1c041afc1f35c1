import PyProof.Rows.All
import Wide.All
import OpenK.AllK
import Wide.FinOn
import HandS.ForMost
import HandS.IsInst
import HandS.Flow
import HandS.SetFor
import HandS.Strs
import HandS.SortInts
import PySem.Challenge.RW_boundwatch_k04_rounded_by_marks
set_option Elab.async false
set_option linter.all false
set_option maxRecDepth 100000
set_option maxHeartbeats 4000000
/-! BW1: data as a whole over the hand layer: what stands for a datum, heaps, what is owned, pure evaluation. -/
namespace BW
open PySem L2 PySem.Spec

/-- a datum -/
inductive Dt where
  | non | bl (b : Bool) | int (i : Int) | str (x : Str) | ty (n : String) | adr (a : Addr)
  | tup (xs : List Dt) | lst (xs : List Dt) | dct (kvs : List (Key × Dt)) | ins (C : Addr) (fs : List (Str × Dt))

/-- scalars -/
def Dt.sc : Dt → Bool
  | .non | .bl _ | .int _ | .str _ | .ty _ | .adr _ => true
  | _ => false

section
variable (K : PySem.W.Frag) (H : Hp)
mutual
inductive Rp : V → Dt → Prop
  | non : Rp .non .non
  | bl (b : Bool) : Rp (.bl b) (.bl b)
  | int (i : Int) : Rp (.int i) (.int i)
  | str (x : Str) : Rp (.str x) (.str x)
  | ty (n : String) : Rp (.ty n) (.ty n)
  | adr (a : Addr) : Rp (.ref a) (.adr a)
  | tup {a : Addr} {vs : List V} {ds : List Dt} : SqT K H a vs → RpA vs ds → Rp (.ref a) (.tup ds)
  | lst {a : Addr} {vs : List V} {ds : List Dt} : SqL K H a vs → RpA vs ds → Rp (.ref a) (.lst ds)
  | dct {a : Addr} {ks : List (Key × V)} {ds : List (Key × Dt)} : Rd H a (.dK ks) → RpK ks ds → Rp (.ref a) (.dct ds)
  | ins {a C dx : Addr} {fs : List (Str × V)} {ds : List (Str × Dt)} : H a = some (.ins C dx fs) → RpF fs ds → Rp (.ref a) (.ins C ds)
inductive RpA : List V → List Dt → Prop
  | nil : RpA [] []
  | cons {v : V} {vs : List V} {d : Dt} {ds : List Dt} : Rp v d → RpA vs ds → RpA (v :: vs) (d :: ds)
inductive RpK : List (Key × V) → List (Key × Dt) → Prop
  | nil : RpK [] []
  | cons {k : Key} {v : V} {vs : List (Key × V)} {d : Dt} {ds : List (Key × Dt)} : Rp v d → RpK vs ds → RpK ((k, v) :: vs) ((k, d) :: ds)
inductive RpF : List (Str × V) → List (Str × Dt) → Prop
  | nil : RpF [] []
  | cons {k : Str} {v : V} {vs : List (Str × V)} {d : Dt} {ds : List (Str × Dt)} : Rp v d → RpF vs ds → RpF ((k, v) :: vs) ((k, d) :: ds)
end
end

theorem same_rd {H H' : Hp} {a : Addr} {u : HO} (e : Same H H') (h : Rd H a u) : Rd H' a u := by
  rcases h with h | ⟨o, h⟩
  · exact .inl (e a _ h)
  · exact .inr ⟨o, e a _ h⟩
theorem same_t {K : PySem.W.Frag} {H H' : Hp} {a : Addr} {xs : List V} (e : Same H H') (h : SqT K H a xs) : SqT K H' a xs := by
  rcases h with h | h
  · exact .inl (same_rd e h)
  · exact .inr h

section
variable {K : PySem.W.Frag} {H H' : Hp}
mutual
theorem Rp.mono (e : Same H H') : ∀ {v : V} {d : Dt}, Rp K H v d → Rp K H' v d
  | _, _, .non => .non
  | _, _, .bl b => .bl b
  | _, _, .int i => .int i
  | _, _, .str x => .str x
  | _, _, .ty n => .ty n
  | _, _, .adr a => .adr a
  | _, _, .tup h r => .tup (same_t e h) (RpA.mono e r)
  | _, _, .lst h r => .lst (e.seq h) (RpA.mono e r)
  | _, _, .dct h r => .dct (same_rd e h) (RpK.mono e r)
  | _, _, .ins h r => .ins (e _ _ h) (RpF.mono e r)
theorem RpA.mono (e : Same H H') : ∀ {vs : List V} {ds : List Dt}, RpA K H vs ds → RpA K H' vs ds
  | _, _, .nil => .nil
  | _, _, .cons h r => .cons (Rp.mono e h) (RpA.mono e r)
theorem RpK.mono (e : Same H H') : ∀ {vs : List (Key × V)} {ds : List (Key × Dt)}, RpK K H vs ds → RpK K H' vs ds
  | _, _, .nil => .nil
  | _, _, .cons h r => .cons (Rp.mono e h) (RpK.mono e r)
theorem RpF.mono (e : Same H H') : ∀ {vs : List (Str × V)} {ds : List (Str × Dt)}, RpF K H vs ds → RpF K H' vs ds
  | _, _, .nil => .nil
  | _, _, .cons h r => .cons (Rp.mono e h) (RpF.mono e r)
end
theorem Rp.sc {v : V} {d : Dt} (h : Rp K H v d) (s : d.sc = true) : Rp K H' v d := by
  cases h with
  | non => exact .non
  | bl b => exact .bl b
  | int i => exact .int i
  | str x => exact .str x
  | ty n => exact .ty n
  | adr a => exact .adr a
  | tup _ _ => cases s
  | lst _ _ => cases s
  | dct _ _ => cases s
  | ins _ _ => cases s
theorem Rp.i {v : V} {i : Int} (h : Rp K H v (.int i)) : v = .int i := by cases h; rfl
theorem Rp.b {v : V} {i : Bool} (h : Rp K H v (.bl i)) : v = .bl i := by cases h; rfl
theorem Rp.s {v : V} {i : Str} (h : Rp K H v (.str i)) : v = .str i := by cases h; rfl
theorem Rp.n {v : V} (h : Rp K H v .non) : v = .non := by cases h; rfl
theorem Rp.a {v : V} {a : Addr} (h : Rp K H v (.adr a)) : v = .ref a := by cases h; rfl
theorem Rp.t {v : V} {n : String} (h : Rp K H v (.ty n)) : v = .ty n := by cases h; rfl
theorem Rp.T {v : V} {ds : List Dt} (h : Rp K H v (.tup ds)) : ∃ a vs, v = .ref a ∧ SqT K H a vs ∧ RpA K H vs ds := by
  cases h with
  | tup h r => exact ⟨_, _, rfl, h, r⟩
theorem Rp.L {v : V} {ds : List Dt} (h : Rp K H v (.lst ds)) : ∃ a vs, v = .ref a ∧ SqL K H a vs ∧ RpA K H vs ds := by
  cases h with
  | lst h r => exact ⟨_, _, rfl, h, r⟩
theorem Rp.D {v : V} {ds : List (Key × Dt)} (h : Rp K H v (.dct ds)) : ∃ a vs, v = .ref a ∧ Rd H a (.dK vs) ∧ RpK K H vs ds := by
  cases h with
  | dct h r => exact ⟨_, _, rfl, h, r⟩
theorem RpA.length : ∀ {vs : List V} {ds : List Dt}, RpA K H vs ds → vs.length = ds.length
  | _, _, .nil => rfl
  | _, _, .cons _ r => by
    show _ + 1 = _ + 1
    rw [RpA.length r]
theorem RpK.length : ∀ {vs : List (Key × V)} {ds : List (Key × Dt)}, RpK K H vs ds → vs.length = ds.length
  | _, _, .nil => rfl
  | _, _, .cons _ r => by
    show _ + 1 = _ + 1
    rw [RpK.length r]
theorem RpA.get : ∀ {vs : List V} {ds : List Dt} {i : Nat} {d : Dt}, RpA K H vs ds → ds[i]? = some d → ∃ v, vs[i]? = some v ∧ Rp K H v d
  | _, _, _, _, .nil, e => by simp at e
  | _, _, 0, _, .cons h _, e => by
    have q := Option.some.inj e
    subst q
    exact ⟨_, rfl, h⟩
  | _, _, i + 1, _, .cons _ r, e => RpA.get (i := i) r (by simpa using e)
theorem RpA.get' : ∀ {vs : List V} {ds : List Dt} {i : Nat} {v : V}, RpA K H vs ds → vs[i]? = some v → ∃ d, ds[i]? = some d ∧ Rp K H v d
  | _, _, _, _, .nil, e => by simp at e
  | _, _, 0, _, .cons h _, e => by
    have q := Option.some.inj e
    subst q
    exact ⟨_, rfl, h⟩
  | _, _, i + 1, _, .cons _ r, e => RpA.get' (i := i) r (by simpa using e)
theorem RpA.append : ∀ {vs us : List V} {ds es : List Dt}, RpA K H vs ds → RpA K H us es → RpA K H (vs ++ us) (ds ++ es)
  | _, _, _, _, .nil, s => s
  | _, _, _, _, .cons h r, s => .cons h (RpA.append r s)
theorem RpA.set {v : V} {d : Dt} (h : Rp K H v d) : ∀ {vs : List V} {ds : List Dt} (i : Nat), RpA K H vs ds → RpA K H (vs.set i v) (ds.set i d)
  | _, _, _, .nil => .nil
  | _, _, 0, .cons _ r => .cons h r
  | _, _, i + 1, .cons q r => .cons q (RpA.set h i r)
theorem RpA.take : ∀ {vs : List V} {ds : List Dt} (n : Nat), RpA K H vs ds → RpA K H (vs.take n) (ds.take n)
  | _, _, 0, _ => by
    rw [List.take_zero, List.take_zero]
    exact .nil
  | _, _, _ + 1, .nil => .nil
  | _, _, n + 1, .cons h r => .cons h (RpA.take n r)
theorem RpA.drop : ∀ {vs : List V} {ds : List Dt} (n : Nat), RpA K H vs ds → RpA K H (vs.drop n) (ds.drop n)
  | _, _, 0, r => r
  | _, _, _ + 1, .nil => .nil
  | _, _, n + 1, .cons _ r => RpA.drop n r
theorem RpA.at {vs : List V} {ds : List Dt} {i : Int} {d : Dt} (r : RpA K H vs ds) (h : atI ds i = some d) : ∃ v, atI vs i = some v ∧ Rp K H v d := by
  unfold atI at h ⊢
  rw [r.length]
  cases e : ixN ds.length i with
  | none => rw [e] at h; cases h
  | some j =>
    rw [e] at h
    exact r.get h
theorem RpA.ints : ∀ {vs : List V} {ns : List Int}, RpA K H vs (ns.map Dt.int) → vs = ns.map V.int
  | _, [], h => by cases h; rfl
  | _, n :: ns, h => by
    cases h with
    | cons h r =>
      rw [h.i, RpA.ints r]
      rfl
theorem RpA.of_ints : ∀ (ns : List Int), RpA K H (ns.map V.int) (ns.map Dt.int)
  | [] => .nil
  | n :: ns => .cons (.int n) (RpA.of_ints ns)
theorem RpA.strs : ∀ {vs : List V} {ns : List Str}, RpA K H vs (ns.map Dt.str) → vs = ns.map V.str
  | _, [], h => by cases h; rfl
  | _, n :: ns, h => by
    cases h with
    | cons h r =>
      rw [h.s, RpA.strs r]
      rfl
theorem RpA.of_strs : ∀ (ns : List Str), RpA K H (ns.map V.str) (ns.map Dt.str)
  | [] => .nil
  | n :: ns => .cons (.str n) (RpA.of_strs ns)
theorem RpA.bls : ∀ {vs : List V} {ns : List Bool}, RpA K H vs (ns.map Dt.bl) → vs = ns.map V.bl
  | _, [], h => by cases h; rfl
  | _, n :: ns, h => by
    cases h with
    | cons h r =>
      rw [h.b, RpA.bls r]
      rfl
/-- the value that a dict of data holds -/
def valD (ks : List (Key × Dt)) (k : Key) : Option Dt := (ks.find? fun kv => decide (kv.1 = k)).map (·.2)
def putD (kvs : List (Key × Dt)) (k : Key) (v : Dt) : List (Key × Dt) :=
  if kvs.any (fun kv => decide (kv.1 = k)) then kvs.map fun kv => if kv.1 = k then (kv.1, v) else kv else kvs ++ [(k, v)]
end

/-! ### heaps -/
/-- G of what stood, and all that is new -/
def xt (G H H2 : Hp) : Hp := fun b => match H b with
  | none => H2 b
  | some _ => G b
section
variable {G H H2 H3 : Hp}
theorem xt_new {b : Addr} (h : H b = none) : xt G H H2 b = H2 b := by unfold xt; rw [h]
theorem xt_old {b : Addr} {o : HO} (h : H b = some o) : xt G H H2 b = G b := by unfold xt; rw [h]
theorem xt_ge (e : Same G H) : Same G (xt G H H2) := fun b o h => by rw [xt_old (e b o h)]; exact h
theorem xt_le (e : Same G H) (f : Same H H2) : Same (xt G H H2) H2 := fun b o h => by
  cases q : H b with
  | none => rw [xt_new q] at h; exact h
  | some u =>
    rw [xt_old q] at h
    exact f b o (e b o h)
theorem xt_self (e : Same G H) : xt G H H = G := by
  funext b
  cases q : H b with
  | none =>
    rw [xt_new q, q]
    exact (e.free q).symm
  | some u => rw [xt_old q]
theorem xt_xt (f : Same H H2) (g : Same H2 H3) : xt (xt G H H2) H2 H3 = xt G H H3 := by
  funext b
  cases q : H b with
  | none =>
    rw [xt_new q]
    cases q2 : H2 b with
    | none => rw [xt_new q2]
    | some u => rw [xt_old q2, xt_new q, q2]; exact (g b u q2).symm
  | some u => rw [xt_old q, xt_old (f b u q), xt_old q]
theorem same_new {H : Hp} {p : Addr} {o : HO} (h : H p = none) : Same H (upd H p o) := fun b x e => by
  rw [upd_ne (ne_of_none e h)]
  exact e
end

/-! ### what is owned -/
inductive Ob where
  | lst (ds : List Dt) | dct (ds : List (Key × Dt)) | ins (C : Addr) (ds : List (Str × Dt))
def Ob.dt : Ob → Dt
  | .lst ds => .lst ds
  | .dct ds => .dct ds
  | .ins C ds => .ins C ds
/-- p's object stands in H, no part of G; its parts lie in G -/
def OwnOk (K : PySem.W.Frag) (G H : Hp) (p : Addr × Ob) : Prop := G p.1 = none ∧ match p.2 with
  | .lst ds => ∃ vs, H p.1 = some (.lst vs) ∧ RpA K G vs ds
  | .dct ds => ∃ ks, H p.1 = some (.dK ks) ∧ RpK K G ks ds
  | .ins C ds => ∃ dx fs, H p.1 = some (.ins C dx fs) ∧ RpF K G fs ds
theorem OwnOk.there {K : PySem.W.Frag} {G H : Hp} {p : Addr × Ob} (h : OwnOk K G H p) : ∃ o, H p.1 = some o := by
  obtain ⟨a, ob⟩ := p
  obtain ⟨_, h⟩ := h
  cases ob with
  | lst ds => obtain ⟨_, e, _⟩ := h; exact ⟨_, e⟩
  | dct ds => obtain ⟨_, e, _⟩ := h; exact ⟨_, e⟩
  | ins C ds => obtain ⟨_, _, e, _⟩ := h; exact ⟨_, e⟩
theorem OwnOk.mono {K : PySem.W.Frag} {G G' H H' : Hp} {p : Addr × Ob} (h : OwnOk K G H p) (e : Same G G') (n : G' p.1 = none) (f : H' p.1 = H p.1) : OwnOk K G' H' p := by
  obtain ⟨a, ob⟩ := p
  obtain ⟨_, h⟩ := h
  refine ⟨n, ?_⟩
  cases ob with
  | lst ds =>
    obtain ⟨vs, q, r⟩ := h
    exact ⟨vs, f.trans q, r.mono e⟩
  | dct ds =>
    obtain ⟨vs, q, r⟩ := h
    exact ⟨vs, f.trans q, r.mono e⟩
  | ins C ds =>
    obtain ⟨dx, fs, q, r⟩ := h
    exact ⟨dx, fs, f.trans q, r.mono e⟩
/-- G and what stands at a -/
def plus (G H : Hp) (a : Addr) : Hp := fun b => if b = a then H a else G b
theorem plus_ge {G H : Hp} {a : Addr} (n : G a = none) : Same G (plus G H a) := fun b o h => by
  unfold plus
  by_cases q : b = a
  · rw [q, n] at h; cases h
  · rw [if_neg q]; exact h
theorem plus_le {G H : Hp} {a : Addr} (e : Same G H) : Same (plus G H a) H := fun b o h => by
  unfold plus at h
  by_cases q : b = a
  · rw [if_pos q] at h; rw [q]; exact h
  · rw [if_neg q] at h; exact e b o h
theorem plus_at {G H : Hp} {a : Addr} : plus G H a a = H a := by unfold plus; rw [if_pos rfl]
theorem plus_ne {G H : Hp} {a b : Addr} (h : b ≠ a) : plus G H a b = G b := by unfold plus; rw [if_neg h]
theorem OwnOk.rp {K : PySem.W.Frag} {G H : Hp} {a : Addr} {ob : Ob} (h : OwnOk K G H (a, ob)) : Rp K (plus G H a) (.ref a) ob.dt := by
  obtain ⟨n, h⟩ := h
  have n : G a = none := n
  cases ob with
  | lst ds =>
    obtain ⟨vs, q, r⟩ := h
    have q : H a = some (.lst vs) := q
    exact .lst (SqL.of (by rw [plus_at]; exact q)) (r.mono (plus_ge n))
  | dct ds =>
    obtain ⟨vs, q, r⟩ := h
    have q : H a = some (.dK vs) := q
    exact .dct (.inl (by rw [plus_at]; exact q)) (r.mono (plus_ge n))
  | ins C ds =>
    obtain ⟨dx, fs, q, r⟩ := h
    have q : H a = some (.ins C dx fs) := q
    exact .ins (by rw [plus_at]; exact q) (r.mono (plus_ge n))

abbrev Ow := List (Addr × Ob)
abbrev Dn := List (Option Dt)
structure Wx (K : PySem.W.Frag) (ow : Ow) (dn : Dn) (G H : Hp) (σ : L2.St) : Prop where
  gh : Same G H
  en : ∀ (i : Nat) (d : Dt), dn[i]? = some (some d) → ∃ v, σ[i]? = some (some v) ∧ Rp K G v d
  len : σ.length = dn.length
  own : ∀ p ∈ ow, OwnOk K G H p
  nd : (ow.map (·.1)).Nodup
section
variable {K : PySem.W.Frag} {ow : Ow} {dn : Dn} {G H H2 : Hp} {σ : L2.St}
theorem Wx.ext (w : Wx K ow dn G H σ) (e : Same H H2) : Wx K ow dn (xt G H H2) H2 σ where
  gh := xt_le w.gh e
  en := fun i d h => by
    obtain ⟨v, q, r⟩ := w.en i d h
    exact ⟨v, q, r.mono (xt_ge w.gh)⟩
  len := w.len
  own := fun p hp => by
    have h := w.own p hp
    obtain ⟨o, q⟩ := h.there
    exact h.mono (xt_ge w.gh) (by rw [xt_old q]; exact h.1) (by rw [q]; exact e _ _ q)
  nd := w.nd
theorem Wx.set (w : Wx K ow dn G H σ) {i : Nat} {v : V} {d : Dt} (r : Rp K G v d) : Wx K ow (dn.set i (some d)) G H (σ.set i (some v)) where
  gh := w.gh
  en := fun j d' h => by
    by_cases e : i = j
    · subst e
      rw [List.getElem?_set] at h
      rw [if_pos rfl] at h
      split at h
      · rename_i hl
        have q := Option.some.inj (Option.some.inj h)
        subst q
        exact ⟨v, by rw [List.getElem?_set_self (by rw [w.len]; exact hl)], r⟩
      · cases h
    · rw [List.getElem?_set_ne e] at h
      rw [List.getElem?_set_ne e]
      exact w.en j d' h
  len := by rw [List.length_set, List.length_set]; exact w.len
  own := w.own
  nd := w.nd
/-- less is known of the slots -/
theorem Wx.less {dn' : Dn} (w : Wx K ow dn G H σ) (hl : dn'.length = dn.length) (h : ∀ (i : Nat) (d : Dt), dn'[i]? = some (some d) → dn[i]? = some (some d)) : Wx K ow dn' G H σ where
  gh := w.gh
  en := fun i d q => w.en i d (h i d q)
  len := w.len.trans hl.symm
  own := w.own
  nd := w.nd
end
end BW

set_option Elab.async false
set_option linter.all false
set_option maxRecDepth 100000
set_option maxHeartbeats 4000000
/-! BW2: pure evaluation of readings. -/
namespace BW
open PySem L2 PySem.Spec

section
variable (K : PySem.W.Frag) (ow : Ow) (dn : Dn)
/-- the reading gives the datum d, whatever stands besides -/
def Ed (te : TE) (d : Dt) : Prop := ∀ σ G H, Wx K ow dn G H σ → ∀ Q : VK, (∀ v H2, Same H H2 → Rp K (xt G H H2) v d → Q v H2) → te σ H Q
def Et (tt : TT) (b : Bool) : Prop := ∀ σ G H, Wx K ow dn G H σ → ∀ Q : Bool → Hp → Prop, (∀ H2, Same H H2 → Q b H2) → tt σ H Q
def Ea (ta : TA) (ds : List Dt) : Prop := ∀ σ G H, Wx K ow dn G H σ → ∀ Q : List V → Hp → Prop, (∀ vs H2, Same H H2 → RpA K (xt G H H2) vs ds → Q vs H2) → ta σ H Q
def Eo (to : TO) (o : Option Int) : Prop := ∀ σ G H, Wx K ow dn G H σ → ∀ Q : Option Int → Hp → Prop, (∀ H2, Same H H2 → Q o H2) → to σ H Q
/-- .. a new object, all its parts known -/
def En (te : TE) (ob : Ob) : Prop := ∀ σ G H, Wx K ow dn G H σ → ∀ Q : VK, (∀ p H2, Same H H2 → H p = none → ∀ G2, Same G G2 → Same G2 H2 → (∀ b o, G2 b = some o → G b = some o ∨ H b = none) → OwnOk K G2 H2 (p, ob) → Q (.ref p) H2) → te σ H Q
end
/-- by values -/
def Rv (K : PySem.W.Frag) (r : R2) (x y z : Dt) : Prop := ∀ G H, Same G H → ∀ v u, Rp K G v x → Rp K G u y → ∀ Q : VK, (∀ w H2, Same H H2 → Rp K (xt G H H2) w z → Q w H2) → r v u H Q
def Ru (K : PySem.W.Frag) (r : V → Hp → VK → Prop) (x z : Dt) : Prop := ∀ G H, Same G H → ∀ v, Rp K G v x → ∀ Q : VK, (∀ w H2, Same H H2 → Rp K (xt G H H2) w z → Q w H2) → r v H Q
def Rc (K : PySem.W.Frag) (r : List V → Hp → VK → Prop) (xs : List Dt) (z : Dt) : Prop := ∀ G H, Same G H → ∀ vs, RpA K G vs xs → ∀ Q : VK, (∀ w H2, Same H H2 → Rp K (xt G H H2) w z → Q w H2) → r vs H Q
def RcN (K : PySem.W.Frag) (r : List V → Hp → VK → Prop) (xs : List Dt) (ob : Ob) : Prop := ∀ G H, Same G H → ∀ vs, RpA K G vs xs → ∀ Q : VK, (∀ p H2, Same H H2 → H p = none → ∀ G2, Same G G2 → Same G2 H2 → (∀ b o, G2 b = some o → G b = some o ∨ H b = none) → OwnOk K G2 H2 (p, ob) → Q (.ref p) H2) → r vs H Q

section
variable {K : PySem.W.Frag} {ow : Ow} {dn : Dn} {ta tb tc te td : TE} {t u : TT} {x y z d e : Dt} {r r' : R2}

theorem xt_same {G H : Hp} (e : Same G H) {v : V} {d : Dt} (h : Rp K G v d) : Rp K (xt G H H) v d := by rw [xt_self e]; exact h
/-- a new object is data, too -/
theorem new_rp {G H G2 H2 : Hp} {p : Addr} {ob : Ob} (gh : Same G H) (e : Same H H2) (np : H p = none) (g2 : Same G2 H2) (f : ∀ b o, G2 b = some o → G b = some o ∨ H b = none) (o : OwnOk K G2 H2 (p, ob)) : Rp K (xt G H H2) (.ref p) ob.dt := by
  refine o.rp.mono fun b x h => ?_
  unfold plus at h
  by_cases q : b = p
  · subst q
    rw [if_pos rfl] at h
    rw [xt_new np]
    exact h
  · rw [if_neg q] at h
    rcases f b x h with k | k
    · rw [xt_old (gh b x k)]; exact k
    · rw [xt_new k]; exact g2 b x h
theorem En.ed {ob : Ob} (h : En K ow dn te ob) : Ed K ow dn te ob.dt := fun σ G H w Q q => h σ G H w Q fun p H2 e np G2 _ g2 f o => q _ H2 e (new_rp w.gh e np g2 f o)

theorem ed_var {i : Nat} (h : dn[i]? = some (some d)) : Ed K ow dn (tVar i) d := fun σ G H w Q q => by
  obtain ⟨v, e, r⟩ := w.en i d h
  exact ⟨v, e, q v H (Same.refl H) (xt_same w.gh r)⟩
theorem ed_c {v : V} (h : ∀ G, Rp K G v d) : Ed K ow dn (tC v) d := fun σ G H w Q q => q v H (Same.refl H) (h _)
theorem ed_int {i : Int} : Ed K ow dn (tC (.int i)) (.int i) := ed_c fun _ => .int i
theorem ed_str {i : Str} : Ed K ow dn (tC (.str i)) (.str i) := ed_c fun _ => .str i
theorem ed_bl {i : Bool} : Ed K ow dn (tC (.bl i)) (.bl i) := ed_c fun _ => .bl i
theorem ed_non : Ed K ow dn (tC .non) .non := ed_c fun _ => .non
theorem ed_ty {n : String} : Ed K ow dn (tC (.ty n)) (.ty n) := ed_c fun _ => .ty n
theorem ed_is (h : Ed K ow dn te d) (e' : d = e) : Ed K ow dn te e := by rw [← e']; exact h
theorem et_is {a b : Bool} (h : Et K ow dn t a) (e' : a = b) : Et K ow dn t b := by rw [← e']; exact h

/-- two readings, one behind the other -/
theorem ed_op (ha : Ed K ow dn ta x) (hb : Ed K ow dn tb y) (hr : Rv K r x y z) : Ed K ow dn (tOp r ta tb) z := fun σ G H w Q q =>
  ha σ G H w _ fun v H1 e1 r1 => hb σ _ H1 (w.ext e1) _ fun u H2 e2 r2 => by
    rw [xt_xt e1 e2] at r2
    have w2 := (w.ext e1).ext e2
    rw [xt_xt e1 e2] at w2
    have r1' : Rp K (xt G H H2) v x := by
      rw [← xt_xt (G := G) e1 e2]
      exact r1.mono (xt_ge (w.ext e1).gh)
    exact hr _ H2 w2.gh v u r1' r2 Q fun k H3 e3 r3 => q k H3 ((e1.trans e2).trans e3) (by rw [xt_xt (e1.trans e2) e3] at r3; exact r3)
theorem ed_un {r : V → Hp → VK → Prop} (ha : Ed K ow dn ta x) (hr : Ru K r x z) : Ed K ow dn (tUn r ta) z := fun σ G H w Q q =>
  ha σ G H w _ fun v H1 e1 r1 => hr _ H1 (w.ext e1).gh v r1 Q fun k H3 e3 r3 => q k H3 (e1.trans e3) (by rw [xt_xt e1 e3] at r3; exact r3)

theorem rv_I0 {g : Int → Int → V} {i j : Int} (h : ∀ G, Rp K G (g i j) z) : Rv K (rI0 g) (.int i) (.int j) z := fun G H e v u r1 r2 Q q =>
  ⟨i, j, r1.i, r2.i, q _ H (Same.refl H) (h _)⟩
theorem rv_I {C : Int → Int → Prop} {g : Int → Int → V} {i j : Int} (hc : C i j) (h : ∀ G, Rp K G (g i j) z) : Rv K (rI C g) (.int i) (.int j) z := fun G H e v u r1 r2 Q q =>
  ⟨i, j, r1.i, r2.i, hc, q _ H (Same.refl H) (h _)⟩
section
variable {i j : Int}
theorem ed_add (ha : Ed K ow dn ta (.int i)) (hb : Ed K ow dn tb (.int j)) : Ed K ow dn (tOp (rI0 fun i j => .int (i + j)) ta tb) (.int (i + j)) := ed_op ha hb (rv_I0 fun _ => .int _)
theorem ed_sub (ha : Ed K ow dn ta (.int i)) (hb : Ed K ow dn tb (.int j)) : Ed K ow dn (tOp (rI0 fun i j => .int (i - j)) ta tb) (.int (i - j)) := ed_op ha hb (rv_I0 fun _ => .int _)
theorem ed_mul (ha : Ed K ow dn ta (.int i)) (hb : Ed K ow dn tb (.int j)) (h : CMul i j) : Ed K ow dn (tOp (rI CMul fun i j => .int (i * j)) ta tb) (.int (i * j)) := ed_op ha hb (rv_I h fun _ => .int _)
theorem ed_mod (ha : Ed K ow dn ta (.int i)) (hb : Ed K ow dn tb (.int j)) (h : 0 < j) : Ed K ow dn (tOp (rI (fun _ j => 0 < j) fun i j => .int (i % j)) ta tb) (.int (i % j)) := ed_op ha hb (rv_I h fun _ => .int _)
theorem ed_div (ha : Ed K ow dn ta (.int i)) (hb : Ed K ow dn tb (.int j)) (h : CDiv i j) : Ed K ow dn (tOp (rI CDiv fun i j => .int (i / j)) ta tb) (.int (i / j)) := ed_op ha hb (rv_I h fun _ => .int _)
theorem ed_neg (ha : Ed K ow dn ta (.int i)) : Ed K ow dn (tUn (rU fun i => .int (-i)) ta) (.int (-i)) := ed_un ha fun G H e v r Q q => ⟨i, r.i, q _ H (Same.refl H) (.int _)⟩
theorem rv_lt : Rv K (rI0 fun i j => .bl (decide (i < j))) (.int i) (.int j) (.bl (decide (i < j))) := rv_I0 fun _ => .bl _
theorem rv_le : Rv K (rI0 fun i j => .bl (decide (i ≤ j))) (.int i) (.int j) (.bl (decide (i ≤ j))) := rv_I0 fun _ => .bl _
theorem rv_gt : Rv K (rI0 fun i j => .bl (decide (j < i))) (.int i) (.int j) (.bl (decide (j < i))) := rv_I0 fun _ => .bl _
theorem rv_ge : Rv K (rI0 fun i j => .bl (decide (j ≤ i))) (.int i) (.int j) (.bl (decide (j ≤ i))) := rv_I0 fun _ => .bl _
theorem ed_lt (ha : Ed K ow dn ta (.int i)) (hb : Ed K ow dn tb (.int j)) : Ed K ow dn (tOp (rI0 fun i j => .bl (decide (i < j))) ta tb) (.bl (decide (i < j))) := ed_op ha hb rv_lt
theorem ed_le (ha : Ed K ow dn ta (.int i)) (hb : Ed K ow dn tb (.int j)) : Ed K ow dn (tOp (rI0 fun i j => .bl (decide (i ≤ j))) ta tb) (.bl (decide (i ≤ j))) := ed_op ha hb rv_le
theorem ed_gt (ha : Ed K ow dn ta (.int i)) (hb : Ed K ow dn tb (.int j)) : Ed K ow dn (tOp (rI0 fun i j => .bl (decide (j < i))) ta tb) (.bl (decide (j < i))) := ed_op ha hb rv_gt
theorem ed_ge (ha : Ed K ow dn ta (.int i)) (hb : Ed K ow dn tb (.int j)) : Ed K ow dn (tOp (rI0 fun i j => .bl (decide (j ≤ i))) ta tb) (.bl (decide (j ≤ i))) := ed_op ha hb rv_ge
/-- == of scalars of one kind -/
theorem rv_eqI : Rv K rEq (.int i) (.int j) (.bl (decide (i = j))) := fun G H e v u r1 r2 Q q => by
  rw [r1.i, r2.i]
  refine ⟨rfl, q _ H (Same.refl H) ?_⟩
  rw [dec_int, Bool.beq_eq_decide_eq]
  exact .bl _
theorem rv_neI : Rv K rNe (.int i) (.int j) (.bl (!decide (i = j))) := fun G H e v u r1 r2 Q q => by
  rw [r1.i, r2.i]
  refine ⟨rfl, q _ H (Same.refl H) ?_⟩
  rw [dec_int, Bool.beq_eq_decide_eq]
  exact .bl _
theorem rv_eqS {i j : Str} : Rv K rEq (.str i) (.str j) (.bl (decide (i = j))) := fun G H e v u r1 r2 Q q => by
  rw [r1.s, r2.s]
  refine ⟨rfl, q _ H (Same.refl H) ?_⟩
  rw [show decide (V.str i = V.str j) = decide (i = j) from decide_eq_decide.mpr ⟨fun h => V.str.inj h, fun h => by rw [h]⟩]
  exact .bl _
theorem rv_neS {i j : Str} : Rv K rNe (.str i) (.str j) (.bl (!decide (i = j))) := fun G H e v u r1 r2 Q q => by
  rw [r1.s, r2.s]
  refine ⟨rfl, q _ H (Same.refl H) ?_⟩
  rw [show decide (V.str i = V.str j) = decide (i = j) from decide_eq_decide.mpr ⟨fun h => V.str.inj h, fun h => by rw [h]⟩]
  exact .bl _
theorem rv_eqB {i j : Bool} : Rv K rEq (.bl i) (.bl j) (.bl (i == j)) := fun G H e v u r1 r2 Q q => by
  rw [r1.b, r2.b]
  refine ⟨rfl, q _ H (Same.refl H) ?_⟩
  rw [dec_bl]
  exact .bl _
theorem rv_neB {i j : Bool} : Rv K rNe (.bl i) (.bl j) (.bl (i != j)) := fun G H e v u r1 r2 Q q => by
  rw [r1.b, r2.b]
  refine ⟨rfl, q _ H (Same.refl H) ?_⟩
  rw [dec_bl]
  exact .bl _
theorem ed_eq (ha : Ed K ow dn ta (.int i)) (hb : Ed K ow dn tb (.int j)) : Ed K ow dn (tOp rEq ta tb) (.bl (decide (i = j))) := ed_op ha hb rv_eqI
theorem ed_ne (ha : Ed K ow dn ta (.int i)) (hb : Ed K ow dn tb (.int j)) : Ed K ow dn (tOp rNe ta tb) (.bl (!decide (i = j))) := ed_op ha hb rv_neI
theorem ed_eqS {i j : Str} (ha : Ed K ow dn ta (.str i)) (hb : Ed K ow dn tb (.str j)) : Ed K ow dn (tOp rEq ta tb) (.bl (decide (i = j))) := ed_op ha hb rv_eqS
theorem ed_neS {i j : Str} (ha : Ed K ow dn ta (.str i)) (hb : Ed K ow dn tb (.str j)) : Ed K ow dn (tOp rNe ta tb) (.bl (!decide (i = j))) := ed_op ha hb rv_neS
theorem ed_eqB {i j : Bool} (ha : Ed K ow dn ta (.bl i)) (hb : Ed K ow dn tb (.bl j)) : Ed K ow dn (tOp rEq ta tb) (.bl (i == j)) := ed_op ha hb rv_eqB
theorem ed_neB {i j : Bool} (ha : Ed K ow dn ta (.bl i)) (hb : Ed K ow dn tb (.bl j)) : Ed K ow dn (tOp rNe ta tb) (.bl (i != j)) := ed_op ha hb rv_neB
end
/-- is None -/
def Dt.isN : Dt → Bool
  | .non => true
  | _ => false
theorem Rp.isN {H : Hp} {v : V} (h : Rp K H v d) : decide (v = .non) = d.isN := by
  cases h <;> first | rfl | exact decide_eq_false (fun q => nomatch q)
def rIsN : R2 := fun x y H Q => y = .non ∧ Q (.bl (decide (x = .non))) H
def rNotN : R2 := fun x y H Q => y = .non ∧ Q (.bl (!decide (x = .non))) H
theorem ed_isN (ha : Ed K ow dn ta x) (hb : Ed K ow dn tb .non) : Ed K ow dn (tOp (fun x y H Q => y = .non ∧ Q (.bl (decide (x = .non))) H) ta tb) (.bl x.isN) :=
  ed_op ha hb fun G H e v u r1 r2 Q q => ⟨r2.n, q _ H (Same.refl H) (by rw [r1.isN]; exact .bl _)⟩
theorem ed_notN (ha : Ed K ow dn ta x) (hb : Ed K ow dn tb .non) : Ed K ow dn (tOp (fun x y H Q => y = .non ∧ Q (.bl (!decide (x = .non))) H) ta tb) (.bl (!x.isN)) :=
  ed_op ha hb fun G H e v u r1 r2 Q q => ⟨r2.n, q _ H (Same.refl H) (by rw [r1.isN]; exact .bl _)⟩

/-! ### argument lists, displays -/
theorem ea_nil : Ea K ow dn tNil [] := fun σ G H w Q q => q [] H (Same.refl H) .nil
theorem ea_cons {tr : TA} {ds : List Dt} (h : Ed K ow dn ta x) (hr : Ea K ow dn tr ds) : Ea K ow dn (tCons ta tr) (x :: ds) := fun σ G H w Q q =>
  h σ G H w _ fun v H1 e1 r1 => hr σ _ H1 (w.ext e1) _ fun vs H2 e2 r2 => by
    have r1' := r1.mono (xt_ge (G := xt G H H1) (H := H1) (H2 := H2) (w.ext e1).gh)
    rw [xt_xt e1 e2] at r1' r2
    exact q _ H2 (e1.trans e2) (.cons r1' r2)
theorem sz_of {n : Nat} (h : n ≤ 1000000) : n ≤ sizeLine := Nat.le_trans h (by decide)
theorem sz_lt {n : Nat} (h : n < 1000000) : n < sizeLine := Nat.lt_of_lt_of_le h (by decide)
theorem en_lst {tr : TA} {ds : List Dt} (h : Ea K ow dn tr ds) (hl : ds.length ≤ 1000000) : En K ow dn (tLst tr) (.lst ds) := fun σ G H w Q q =>
  h σ G H w _ fun vs H1 e1 r1 => ⟨by rw [r1.length]; exact sz_of hl, fun p np => by
    have n0 := e1.free np
    refine q p _ (e1.trans (same_new np)) n0 (xt G H H1) (xt_ge w.gh) ((xt_le w.gh e1).trans (same_new np)) (fun b o h => ?_) ⟨?_, vs, upd_same, r1⟩
    · cases k : H b with
      | none => exact .inr rfl
      | some u => rw [xt_old k] at h; exact .inl h
    · show xt G H H1 p = none
      rw [xt_new n0]; exact np⟩
theorem ed_lst {tr : TA} {ds : List Dt} (h : Ea K ow dn tr ds) (hl : ds.length ≤ 1000000 := by exact Nat.le_of_ble_eq_true rfl) : Ed K ow dn (tLst tr) (.lst ds) := (en_lst h hl).ed
theorem ed_tup {tr : TA} {ds : List Dt} (h : Ea K ow dn tr ds) (hl : ds.length ≤ 1000000 := by exact Nat.le_of_ble_eq_true rfl) : Ed K ow dn (tTup tr) (.tup ds) := fun σ G H w Q q =>
  h σ G H w _ fun vs H1 e1 r1 => ⟨by rw [r1.length]; exact sz_of hl, fun p np => by
    have n0 := e1.free np
    refine q _ _ (e1.trans (same_new np)) (.tup (vs := vs) (SqT.of ?_) (r1.mono ?_))
    · rw [xt_new n0]; exact upd_same
    · rw [← xt_xt (G := G) e1 (same_new np)]
      exact xt_ge (xt_le w.gh e1)⟩

/-! ### subscripts -/
theorem rv_ixL {ds : List Dt} {i : Int} (h : atI ds i = some d) : Rv K (rIxL K) (.lst ds) (.int i) d := fun G H e v u r1 r2 Q q => by
  obtain ⟨a, vs, rfl, hs, ra⟩ := r1.L
  obtain ⟨w', hw, rw'⟩ := ra.at h
  exact ⟨a, vs, i, w', rfl, r2.i, e.seq hs, hw, q _ H (Same.refl H) (xt_same e rw')⟩
theorem rv_ixT {ds : List Dt} {i : Int} (h : atI ds i = some d) : Rv K (rIxT K) (.tup ds) (.int i) d := fun G H e v u r1 r2 Q q => by
  obtain ⟨a, vs, rfl, hs, ra⟩ := r1.T
  obtain ⟨w', hw, rw'⟩ := ra.at h
  exact ⟨a, vs, i, w', rfl, r2.i, same_t e hs, hw, q _ H (Same.refl H) (xt_same e rw')⟩
theorem ed_ixL {ds : List Dt} {i : Int} (ha : Ed K ow dn ta (.lst ds)) (hb : Ed K ow dn tb (.int i)) (h : atI ds i = some d) : Ed K ow dn (tOp (rIxL K) ta tb) d := ed_op ha hb (rv_ixL h)
theorem ed_ixT {ds : List Dt} {i : Int} (ha : Ed K ow dn ta (.tup ds)) (hb : Ed K ow dn tb (.int i)) (h : atI ds i = some d) : Ed K ow dn (tOp (rIxT K) ta tb) d := ed_op ha hb (rv_ixT h)
theorem ed_ixS {z : Str} {c : Nat} {i : Int} (ha : Ed K ow dn ta (.str z)) (hb : Ed K ow dn tb (.int i)) (hl : z.length ≤ 1000000) (h : atI z.cps.toList i = some c) : Ed K ow dn (tOp rIxS ta tb) (.str ⟨#[c]⟩) :=
  ed_op ha hb fun G H e v u r1 r2 Q q => ⟨z, i, c, r1.s, r2.i, sz_of hl, h, q _ H (Same.refl H) (.str _)⟩
/-- list, tuple or text -/
theorem ed_ixL' {ds : List Dt} {i : Int} (ha : Ed K ow dn ta (.lst ds)) (hb : Ed K ow dn tb (.int i)) (h : atI ds i = some d) : Ed K ow dn (tOp (rIx K) ta tb) d := ed_op ha hb fun G H e v u r1 r2 Q q => .inl (rv_ixL h G H e v u r1 r2 Q q)
theorem ed_ixT' {ds : List Dt} {i : Int} (ha : Ed K ow dn ta (.tup ds)) (hb : Ed K ow dn tb (.int i)) (h : atI ds i = some d) : Ed K ow dn (tOp (rIx K) ta tb) d := ed_op ha hb fun G H e v u r1 r2 Q q => .inr (.inl (rv_ixT h G H e v u r1 r2 Q q))

/-! ### slices -/
theorem eo_none : Eo K ow dn tNoPart none := fun σ G H w Q q => q H (Same.refl H)
theorem eo_some {i : Int} (h : Ed K ow dn ta (.int i)) : Eo K ow dn (tPart ta) (some i) := fun σ G H w Q q => h σ G H w _ fun v H2 e r => ⟨i, r.i, q H2 e⟩
def cutD (xs : List Dt) (lo hi : Option Int) : List Dt := (xs.drop (HT.sIx xs.length 0 lo)).take (HT.sIx xs.length xs.length hi - HT.sIx xs.length 0 lo)
theorem RpA.cut {H : Hp} {vs : List V} {ds : List Dt} (r : RpA K H vs ds) (lo hi : Option Int) : RpA K H (cutV vs lo hi) (cutD ds lo hi) := by
  unfold cutV cutD
  rw [r.length]
  exact (r.drop _).take _
theorem en_slL {ds : List Dt} {tl th : TO} {lo hi : Option Int} (h : Ed K ow dn te (.lst ds)) (h1 : Eo K ow dn tl lo) (h2 : Eo K ow dn th hi) : En K ow dn (tSl (rSlL K) te tl th) (.lst (cutD ds lo hi)) := fun σ G H w Q q =>
  h σ G H w _ fun v H1 e1 r1 => h1 σ _ H1 (w.ext e1) _ fun H2 e2 => by
    have w2 := (w.ext e1).ext e2
    rw [xt_xt e1 e2] at w2
    refine h2 σ _ H2 w2 _ fun H3 e3 => ?_
    obtain ⟨a, vs, rfl, hs, ra⟩ := r1.L
    have e13 := e2.trans e3
    have g1 : Same (xt G H H1) (xt G H H3) := by
      rw [← xt_xt (G := G) e1 e13]
      exact xt_ge (w.ext e1).gh
    refine ⟨a, vs, rfl, (xt_le w.gh (e1.trans e13)).seq (g1.seq hs), fun p np => ?_⟩
    have n0 := (e1.trans e13).free np
    refine q p _ ((e1.trans e13).trans (same_new np)) n0 (xt G H H3) (xt_ge w.gh) ((xt_le w.gh (e1.trans e13)).trans (same_new np)) (fun b o h => ?_) ⟨?_, _, upd_same, (ra.mono g1).cut lo hi⟩
    · cases k : H b with
      | none => exact .inr rfl
      | some u => rw [xt_old k] at h; exact .inl h
    · show xt G H H3 p = none
      rw [xt_new n0]; exact np
theorem ed_slL {ds : List Dt} {tl th : TO} {lo hi : Option Int} (h : Ed K ow dn te (.lst ds)) (h1 : Eo K ow dn tl lo) (h2 : Eo K ow dn th hi) : Ed K ow dn (tSl (rSlL K) te tl th) (.lst (cutD ds lo hi)) := (en_slL h h1 h2).ed

/-! ### tests -/
theorem et_test {b : Bool} (h : Ed K ow dn te (.bl b)) : Et K ow dn (tTest te) b := fun σ G H w Q q => h σ G H w _ fun v H2 e r => ⟨b, r.b, q H2 e⟩
theorem et_B {b : Bool} (h : Ed K ow dn te (.bl b)) : Et K ow dn (tB te) b := fun σ G H w Q q => h σ G H w _ fun v H2 e r => ⟨b, r.b, q H2 e⟩
theorem et_not {b : Bool} (h : Et K ow dn t b) : Et K ow dn (tNot t) (!b) := fun σ G H w Q q => h σ G H w _ fun H2 e => q H2 e
theorem et_and {a b : Bool} (h1 : Et K ow dn t a) (h2 : a = true → Et K ow dn u b) : Et K ow dn (tAnd t u) (a && b) := fun σ G H w Q q => h1 σ G H w _ fun H1 e1 => by
  cases a with
  | true => exact iteT (h2 rfl σ _ H1 (w.ext e1) _ fun H2 e2 => q H2 (e1.trans e2))
  | false => exact iteF (q H1 e1)
theorem et_or {a b : Bool} (h1 : Et K ow dn t a) (h2 : a = false → Et K ow dn u b) : Et K ow dn (tOr t u) (a || b) := fun σ G H w Q q => h1 σ G H w _ fun H1 e1 => by
  cases a with
  | true => exact iteT (q H1 e1)
  | false => exact iteF (h2 rfl σ _ H1 (w.ext e1) _ fun H2 e2 => q H2 (e1.trans e2))
theorem ed_andV {a b : Bool} (h1 : Ed K ow dn ta (.bl a)) (h2 : a = true → Ed K ow dn tb (.bl b)) : Ed K ow dn (tAndV ta tb) (.bl (a && b)) := fun σ G H w Q q => h1 σ G H w _ fun v H1 e1 r1 => ⟨a, r1.b, by
  cases a with
  | true => exact iteT (h2 rfl σ _ H1 (w.ext e1) _ fun u H2 e2 r2 => q u H2 (e1.trans e2) (r2.sc rfl))
  | false => exact iteF (q _ H1 e1 (.bl _))⟩
theorem ed_orV {a b : Bool} (h1 : Ed K ow dn ta (.bl a)) (h2 : a = false → Ed K ow dn tb (.bl b)) : Ed K ow dn (tOrV ta tb) (.bl (a || b)) := fun σ G H w Q q => h1 σ G H w _ fun v H1 e1 r1 => ⟨a, r1.b, by
  cases a with
  | true => exact iteT (q _ H1 e1 (.bl _))
  | false => exact iteF (h2 rfl σ _ H1 (w.ext e1) _ fun u H2 e2 r2 => q u H2 (e1.trans e2) (r2.sc rfl))⟩
theorem ed_notV {a : Bool} (h1 : Ed K ow dn ta (.bl a)) : Ed K ow dn (tNotV ta) (.bl (!a)) := fun σ G H w Q q => h1 σ G H w _ fun v H1 e1 r1 => ⟨a, r1.b, q _ H1 e1 (.bl _)⟩
theorem ed_if {b : Bool} (h : Et K ow dn t b) (h1 : b = true → Ed K ow dn ta d) (h2 : b = false → Ed K ow dn tb d) : Ed K ow dn (tIf t ta tb) d := fun σ G H w Q q => h σ G H w _ fun H1 e1 => by
  cases b with
  | true => exact iteT (h1 rfl σ _ H1 (w.ext e1) _ fun u H2 e2 r2 => q u H2 (e1.trans e2) (by rw [xt_xt e1 e2] at r2; exact r2))
  | false => exact iteF (h2 rfl σ _ H1 (w.ext e1) _ fun u H2 e2 r2 => q u H2 (e1.trans e2) (by rw [xt_xt e1 e2] at r2; exact r2))
theorem ed_chain {a b : Bool} (ha : Ed K ow dn ta x) (hb : Ed K ow dn tb y) (hc : a = true → Ed K ow dn tc z) (h1 : Rv K r x y (.bl a)) (h2 : a = true → Rv K r' y z (.bl b)) : Ed K ow dn (tChain r r' ta tb tc) (.bl (a && b)) := fun σ G H w Q q =>
  ha σ G H w _ fun v H1 e1 r1 => hb σ _ H1 (w.ext e1) _ fun u H2 e2 r2 => by
    rw [xt_xt e1 e2] at r2
    have w2 := (w.ext e1).ext e2
    rw [xt_xt e1 e2] at w2
    have r1' : Rp K (xt G H H2) v x := by
      rw [← xt_xt (G := G) e1 e2]
      exact r1.mono (xt_ge (w.ext e1).gh)
    refine h1 _ H2 w2.gh v u r1' r2 _ fun k H3 e3 r3 => ⟨a, r3.b, ?_⟩
    cases a with
    | false => exact iteF (q _ H3 ((e1.trans e2).trans e3) (.bl _))
    | true =>
      have w3 := w2.ext e3
      rw [xt_xt (e1.trans e2) e3] at w3
      refine iteT (hc rfl σ _ H3 w3 _ fun c H4 e4 r4 => ?_)
      have e34 := e3.trans e4
      have e4' := (e1.trans e2).trans e3
      rw [xt_xt e4' e4] at r4
      have w4 := w3.ext e4
      rw [xt_xt e4' e4] at w4
      have r2' : Rp K (xt G H H4) u y := by
        rw [← xt_xt (G := G) (e1.trans e2) e34]
        exact r2.mono (xt_ge w2.gh)
      exact h2 rfl _ H4 w4.gh u c r2' r4 Q fun m H5 e5 r5 => q m H5 (e4'.trans (e4.trans e5)) (r5.sc rfl)

/-! ### built-in calls -/
theorem ed_cb {rc : List V → Hp → VK → Prop} {tr : TA} {ds : List Dt} (h : Ea K ow dn tr ds) (hr : Rc K rc ds z) : Ed K ow dn (tCB rc tr) z := fun σ G H w Q q =>
  h σ G H w _ fun vs H1 e1 r1 => hr _ H1 (w.ext e1).gh vs r1 Q fun k H3 e3 r3 => q k H3 (e1.trans e3) (by rw [xt_xt e1 e3] at r3; exact r3)
theorem en_cb {rc : List V → Hp → VK → Prop} {tr : TA} {ds : List Dt} {ob : Ob} (h : Ea K ow dn tr ds) (hr : RcN K rc ds ob) : En K ow dn (tCB rc tr) ob := fun σ G H w Q q =>
  h σ G H w _ fun vs H1 e1 r1 => hr _ H1 (w.ext e1).gh vs r1 Q fun p H3 e3 np G2 g1 g2 f o => q p H3 (e1.trans e3) (e1.free np) G2 ((xt_ge w.gh).trans g1) g2 (fun b o h => by
    rcases f b o h with k | k
    · cases hb : H b with
      | none => exact .inr rfl
      | some u => rw [xt_old hb] at k; exact .inl k
    · exact .inr (e1.free k)) o
theorem RpA.one {G : Hp} {vs : List V} (h : RpA K G vs [x]) : ∃ v, vs = [v] ∧ Rp K G v x := by
  cases h with
  | cons h r => cases r; exact ⟨_, rfl, h⟩
theorem RpA.two {G : Hp} {vs : List V} (h : RpA K G vs [x, y]) : ∃ v u, vs = [v, u] ∧ Rp K G v x ∧ Rp K G u y := by
  cases h with
  | cons h r =>
    obtain ⟨u, rfl, h2⟩ := RpA.one r
    exact ⟨_, u, rfl, h, h2⟩
theorem if_max (i j : Int) : (if j > i then j else i) = max i j := by
  rw [Int.max_def]
  split <;> split <;> omega
theorem if_min (i j : Int) : (if j < i then j else i) = min i j := by
  rw [Int.min_def]
  split <;> split <;> omega
theorem ed_max2 {i j : Int} {tr : TA} (h : Ea K ow dn tr [.int i, .int j]) : Ed K ow dn (tCB (fun xs H Q => ∃ i j, xs = [.int i, .int j] ∧ Q (.int (if j > i then j else i)) H) tr) (.int (max i j)) := ed_cb h fun G H e vs r Q q => by
  obtain ⟨v, u, rfl, r1, r2⟩ := r.two
  refine ⟨i, j, by rw [r1.i, r2.i], ?_⟩
  rw [if_max]
  exact q _ H (Same.refl H) (.int _)
theorem ed_min2 {i j : Int} {tr : TA} (h : Ea K ow dn tr [.int i, .int j]) : Ed K ow dn (tCB (fun xs H Q => ∃ i j, xs = [.int i, .int j] ∧ Q (.int (if j < i then j else i)) H) tr) (.int (min i j)) := ed_cb h fun G H e vs r Q q => by
  obtain ⟨v, u, rfl, r1, r2⟩ := r.two
  refine ⟨i, j, by rw [r1.i, r2.i], ?_⟩
  rw [if_min]
  exact q _ H (Same.refl H) (.int _)
def rLenS (K : PySem.W.Frag) : List V → Hp → VK → Prop := fun xs H Q => ∃ p ys, xs = [.ref p] ∧ (SqL K H p ys ∨ SqT K H p ys) ∧ Q (.int ys.length) H
theorem ed_lenL {ds : List Dt} {tr : TA} (h : Ea K ow dn tr [.lst ds]) : Ed K ow dn (tCB (fun xs H Q => ∃ p ys, xs = [.ref p] ∧ (SqL K H p ys ∨ SqT K H p ys) ∧ Q (.int ys.length) H) tr) (.int ds.length) := ed_cb h fun G H e vs r Q q => by
  obtain ⟨v, rfl, r1⟩ := r.one
  obtain ⟨a, us, rfl, hs, ra⟩ := r1.L
  refine ⟨a, us, rfl, .inl (e.seq hs), ?_⟩
  rw [ra.length]
  exact q _ H (Same.refl H) (.int _)
theorem ed_lenT {ds : List Dt} {tr : TA} (h : Ea K ow dn tr [.tup ds]) : Ed K ow dn (tCB (fun xs H Q => ∃ p ys, xs = [.ref p] ∧ (SqL K H p ys ∨ SqT K H p ys) ∧ Q (.int ys.length) H) tr) (.int ds.length) := ed_cb h fun G H e vs r Q q => by
  obtain ⟨v, rfl, r1⟩ := r.one
  obtain ⟨a, us, rfl, hs, ra⟩ := r1.T
  refine ⟨a, us, rfl, .inr (same_t e hs), ?_⟩
  rw [ra.length]
  exact q _ H (Same.refl H) (.int _)

/-! ### isinstance -/
def Dt.tn : Dt → String
  | .non => "NoneType"
  | .bl _ => "bool"
  | .int _ => "int"
  | .str _ => "str"
  | .tup _ => "tuple"
  | .lst _ => "list"
  | .dct _ => "dict"
  | _ => "?"
def Dt.isT (d : Dt) (n : String) : Bool := d.tn == n || (d.tn == "bool" && n == "int")
def Dt.pl : Dt → Bool
  | .non | .bl _ | .int _ | .str _ | .tup _ | .lst _ | .dct _ => true
  | _ => false
theorem tyX_of {H : Hp} {v : V} (h : Rp K H v d) (p : d.pl = true) : TyX K H v (.type d.tn) := by
  cases h with
  | non => exact .base .non
  | bl b => exact .base (.bl b)
  | int i => exact .base (.int i)
  | str x => exact .base (.str x)
  | ty n => cases p
  | adr a => cases p
  | tup h r =>
    rcases h with (h | ⟨o, h⟩) | ⟨o, its, n, h1, h2, _⟩
    · exact .base (.tup h)
    · exact .fTuple h
    · exact .kTuple h1 h2
  | lst h r =>
    rcases h with (h | ⟨o, h⟩) | ⟨o, its, n, h1, h2, _⟩
    · exact .base (.lst h)
    · exact .base (.frz h)
    · exact .kList h1 h2
  | dct h r =>
    rcases h with h | ⟨o, h⟩
    · exact .base (.dK h)
    · exact .fDict h
  | ins h r => cases p
theorem kit_tab : ∀ a ∈ ["NoneType", "bool", "int", "str", "tuple", "list", "dict"], ∀ b ∈ ["int", "bool", "str", "tuple", "list", "dict"], kitB a b = some (a == b || (a == "bool" && b == "int")) := by decide +kernel
theorem kit_dt {n : String} (p : d.pl = true) (hn : n ∈ ["int", "bool", "str", "tuple", "list", "dict"]) : PySem.W.kitOne K (.type d.tn) (.type n) = some (d.isT n) := by
  refine kit_ty (kit_tab d.tn ?_ n hn)
  cases d <;> first | (simp [Dt.tn]; done) | (simp [Dt.pl] at p; done)
theorem ed_isi {n : String} {tr : TA} (h : Ea K ow dn tr [x, .ty n]) (p : x.pl = true) (hn : n ∈ ["int", "bool", "str", "tuple", "list", "dict"] := by decide) : Ed K ow dn (tCB (rIsi K) tr) (.bl (x.isT n)) := ed_cb h fun G H e vs r Q q => by
  obtain ⟨v, u, rfl, r1, r2⟩ := r.two
  rw [r2.t]
  exact ⟨v, .ty n, _, _, _, rfl, .ty n, tyX_of (r1.mono e) p, kit_dt p hn, q _ H (Same.refl H) (.bl _)⟩
end
end BW

set_option Elab.async false
set_option linter.all false
set_option maxRecDepth 100000
set_option maxHeartbeats 4000000
/-! BW3: promises of pure defs, statements. -/
namespace BW
open PySem L2 PySem.Spec PyProof.Rows

/-- all but M as it was -/
def SamX (M : List Addr) (H0 H : Hp) : Prop := (∀ b o, b ∉ M → H0 b = some o → H b = some o) ∧ ∀ b o, H0 b = some o → ∃ o', H b = some o'
theorem SamX.same {H0 H : Hp} (h : SamX [] H0 H) : Same H0 H := fun b o e => h.1 b o (by simp) e
theorem SamX.of {M : List Addr} {H0 H : Hp} (h : Same H0 H) : SamX M H0 H := ⟨fun b o _ e => h b o e, fun b o e => ⟨o, h b o e⟩⟩
theorem SamX.trans {M : List Addr} {H0 H H2 : Hp} (h : SamX M H0 H) (e : Same H H2) : SamX M H0 H2 := ⟨fun b o n q => e b o (h.1 b o n q), fun b o q => by
  obtain ⟨o', q'⟩ := h.2 b o q
  exact ⟨o', e b o' q'⟩⟩
theorem SamX.free {M : List Addr} {H0 H : Hp} (h : SamX M H0 H) {b : Addr} (n : H b = none) : H0 b = none := by
  cases q : H0 b with
  | none => rfl
  | some o =>
    obtain ⟨o', e⟩ := h.2 b o q
    rw [n] at e
    cases e

/-- the promise of a pure def: R says the result of the arguments -/
def SpR (K : PySem.W.Frag) (R : List Dt → Dt → Prop) : Sp := fun vs H Q _ => ∃ G ds d, Same G H ∧ RpA K G vs ds ∧ R ds d ∧ ∀ v H', SamX [] H H' → Rp K (xt G H H') v d → Q v H'

/-- where a def stands: what it may change, what stays known, what stood at its entry -/
structure Fr where
  M : List Addr
  B : Hp
  G0 : Hp
  H0 : Hp
abbrev Fr.to (F : Fr) (B : Hp) : Fr := { F with B := B }
structure Wd (K : PySem.W.Frag) (F : Fr) (ow : Ow) (dn : Dn) (G H : Hp) (σ : L2.St) : Prop where
  wx : Wx K ow dn G H σ
  hh : SamX F.M F.H0 H
  fp : ∀ b o, G b = some o → F.G0 b = some o ∨ F.H0 b = none
  fr : ∀ p ∈ ow, F.H0 p.1 = none ∨ p.1 ∈ F.M
  sb : Same F.B G

section
variable {K : PySem.W.Frag} {F : Fr} {ow : Ow} {dn : Dn} {G H H2 : Hp} {σ : L2.St} {d : Dt} {te ta tb : TE} {tt : TT} {D : Ends} {t u : TS}
theorem Wd.ext (w : Wd K F ow dn G H σ) (e : Same H H2) : Wd K F ow dn (xt G H H2) H2 σ where
  wx := w.wx.ext e
  hh := w.hh.trans e
  fp := fun b o h => by
    cases q : H b with
    | none => exact .inr (w.hh.free q)
    | some x => rw [xt_old q] at h; exact w.fp b o h
  fr := w.fr
  sb := w.sb.trans (xt_ge w.wx.gh)
theorem Wd.set (w : Wd K F ow dn G H σ) {i : Nat} {v : V} {d : Dt} (r : Rp K G v d) : Wd K F ow (dn.set i (some d)) G H (σ.set i (some v)) := ⟨w.wx.set r, w.hh, w.fp, w.fr, w.sb⟩
theorem Wd.less {dn' : Dn} (w : Wd K F ow dn G H σ) (hl : dn'.length = dn.length) (h : ∀ (i : Nat) (d : Dt), dn'[i]? = some (some d) → dn[i]? = some (some d)) : Wd K F ow dn' G H σ := ⟨w.wx.less hl h, w.hh, w.fp, w.fr, w.sb⟩
/-- another stable base -/
theorem Wd.base (w : Wd K F ow dn G H σ) {B : Hp} (s : Same B G) : Wd K (F.to B) ow dn G H σ := ⟨w.wx, w.hh, w.fp, w.fr, s⟩
theorem Wd.back {B : Hp} (w : Wd K (F.to B) ow dn G H σ) (s : Same F.B B) : Wd K F ow dn G H σ := ⟨w.wx, w.hh, w.fp, w.fr, s.trans w.sb⟩
/-- what is known here is known to who asked -/
theorem Wd.out (w : Wd K F ow dn G H σ) : Same G (xt F.G0 F.H0 H) := fun b o h => by
  rcases w.fp b o h with k | k
  · cases q : F.H0 b with
    | none => rw [xt_new q]; exact w.wx.gh b o h
    | some u => rw [xt_old q]; exact k
  · rw [xt_new k]; exact w.wx.gh b o h

/-! ### the def's entry, its calls -/
def fr0 (G H : Hp) : Fr := ⟨[], G, G, H⟩
theorem w_start {N : List Str} {vs : List V} {ds : List Dt} {n : Nat} (gh : Same G H) (r : RpA K G vs ds) (hN : N.length = ds.length + n) (hd : dn = ds.map some ++ List.replicate n none) : Wd K (fr0 G H) [] dn G H (L2.start N vs) := by
  subst hd
  refine ⟨⟨gh, fun i d h => ?_, ?_, fun _ h => (List.not_mem_nil h).elim, List.nodup_nil⟩, SamX.of (Same.refl H), fun b o h => .inl h, fun _ h => (List.not_mem_nil h).elim, Same.refl G⟩
  · unfold L2.start
    by_cases hi : i < ds.length
    · rw [List.getElem?_append_left (by simpa using hi), List.getElem?_map] at h
      cases e : ds[i]? with
      | none => rw [e] at h; cases h
      | some d' =>
        rw [e] at h
        have q : d' = d := Option.some.inj (Option.some.inj h)
        subst q
        obtain ⟨v, hv, rv⟩ := r.get e
        refine ⟨v, ?_, rv⟩
        rw [List.getElem?_append_left (by rw [List.length_map, r.length]; exact hi), List.getElem?_map, hv]
        rfl
    · rw [List.getElem?_append_right (by simpa using hi), List.getElem?_replicate] at h
      split at h <;> cases h
  · unfold L2.start
    rw [List.length_append, List.length_append, List.length_map, List.length_map, List.length_replicate, List.length_replicate, r.length, hN]
    omega
theorem ok_R {P : Program} {w : World} {mg : Str → Option Value} {base : Heap} {x qual : Str} {st : Stmt} {f : Addr} {fd : FuncData} {N ps : List Str} {k : Nat} {R : List Dt → Dt → Prop} (F : Fun K x qual st f fd) (S : FnScope N ps (defScope st))
    (hlen : ∀ ds d, R ds d → ds.length = ps.length)
    (hbody : ∀ (cdv : Value) (A : Around) (outer : List Env) (s : Shared) (H : Hp) (E : XK), Room k (A.deeper (envOfC qual (defScope st) s.heap.objs.size f cdv)) →
      ∃ t, PSs (cxOf CX0 P w K mg base N qual (defScope st) f cdv A outer s H E).nox (defBody st) t ∧ ∀ G vs ds d (Q : VK), R ds d → Same G H → RpA K G vs ds → (∀ v H', SamX [] H H' → Rp K (xt G H H') v d → Q v H') → t { nx := fun _ H' => Q .non H', rt := Q } (L2.start N vs) H) :
    FnOk P w K mg base CX0 (k + 1) f fd ps (SpR K R) := by
  refine F.ok S (fun vs H Q E h => ?_) (fun cdv A outer s H vs Q E hr h => ?_)
  · obtain ⟨G, ds, d, _, r, hR, _⟩ := h
    rw [r.length]
    exact hlen ds d hR
  · obtain ⟨G, ds, d, gh, r, hR, q⟩ := h
    obtain ⟨t, ht, hq⟩ := hbody cdv A outer s H E hr
    exact ⟨t, ht, hq G vs ds d Q hR gh r q⟩
theorem ed_call {R : List Dt → Dt → Prop} {E : XK} {tr : TA} {ds : List Dt} (h : Ea K ow dn tr ds) (hr : R ds d) : Ed K ow dn (tCall (SpR K R) [] E tr) d := fun σ G H w Q q =>
  h σ G H w _ fun vs H1 e1 r1 => by
    rw [List.append_nil]
    exact ⟨_, ds, d, (w.ext e1).gh, r1, hr, fun v H' s r => q v H' (e1.trans s.same) (by rw [xt_xt e1 s.same] at r; exact r)⟩

/-! ### statements -/
theorem x_set {i : Nat} (w : Wd K F ow dn G H σ) (h : Ed K ow dn te d) (k : ∀ v H', Wd K F ow (dn.set i (some d)) (xt G H H') H' (σ.set i (some v)) → D.nx (σ.set i (some v)) H') : tAsg te (gName i) D σ H :=
  h σ G H w.wx _ fun v H' e r => k v H' ((w.ext e).set r)
theorem x_ret (w : Wd K F ow dn G H σ) (h : Ed K ow dn te d) (q : ∀ v H', SamX F.M F.H0 H' → Rp K (xt F.G0 F.H0 H') v d → D.rt v H') : tRet te D σ H :=
  h σ G H w.wx _ fun v H' e r => q v H' (w.hh.trans e) (r.mono (w.ext e).out)
theorem x_retN (w : Wd K F ow dn G H σ) (q : ∀ v H', SamX F.M F.H0 H' → Rp K (xt F.G0 F.H0 H') v .non → D.rt v H') : tRetN D σ H := q _ H w.hh .non
theorem x_if {b : Bool} (w : Wd K F ow dn G H σ) (h : Et K ow dn tt b) (k1 : b = true → ∀ H', Wd K F ow dn (xt G H H') H' σ → t D σ H') (k2 : b = false → ∀ H', Wd K F ow dn (xt G H H') H' σ → u D σ H') : tIfS tt t u D σ H :=
  h σ G H w.wx _ fun H' e => by
    cases b with
    | true => exact iteT (k1 rfl H' (w.ext e))
    | false => exact iteF (k2 rfl H' (w.ext e))
theorem x_ifT {b : Bool} (w : Wd K F ow dn G H σ) (h : Et K ow dn tt b) (e : b = true) (k : ∀ H', Wd K F ow dn (xt G H H') H' σ → t D σ H') : tIfS tt t u D σ H :=
  x_if w h (fun _ => k) fun hb => absurd (e.symm.trans hb) (by decide)
theorem x_ifF {b : Bool} (w : Wd K F ow dn G H σ) (h : Et K ow dn tt b) (e : b = false) (k : ∀ H', Wd K F ow dn (xt G H H') H' σ → u D σ H') : tIfS tt t u D σ H :=
  x_if w h (fun hb => absurd (e.symm.trans hb) (by decide)) fun _ => k
/-- if without else -/
def tIf0 (c : TT) (t : TS) : TS := fun D σ H => c σ H fun b H1 => if b = true then t D σ H1 else D.nx σ H1
theorem ps_if0 {X : Cx} {c : Expr} {a : List Stmt} {tc : TT} {pos : Pos} (hc : PT X c tc) (ha : PSs X a t) : PS X (.If c a [] pos) (tIf0 tc t) := ps_if hc ha pss_nil
theorem x_if0 {b : Bool} (w : Wd K F ow dn G H σ) (h : Et K ow dn tt b) (k1 : b = true → ∀ H', Wd K F ow dn (xt G H H') H' σ → t D σ H') (k2 : b = false → ∀ H', Wd K F ow dn (xt G H H') H' σ → D.nx σ H') : tIf0 tt t D σ H :=
  h σ G H w.wx _ fun H' e => by
    cases b with
    | true => exact iteT (k1 rfl H' (w.ext e))
    | false => exact iteF (k2 rfl H' (w.ext e))
theorem x_if0T {b : Bool} (w : Wd K F ow dn G H σ) (h : Et K ow dn tt b) (e : b = true) (k : ∀ H', Wd K F ow dn (xt G H H') H' σ → t D σ H') : tIf0 tt t D σ H :=
  x_if0 w h (fun _ => k) fun hb => absurd (e.symm.trans hb) (by decide)
theorem x_if0F {b : Bool} (w : Wd K F ow dn G H σ) (h : Et K ow dn tt b) (e : b = false) (k : ∀ H', Wd K F ow dn (xt G H H') H' σ → D.nx σ H') : tIf0 tt t D σ H :=
  x_if0 w h (fun hb => absurd (e.symm.trans hb) (by decide)) fun _ => k
theorem x_drop (w : Wd K F ow dn G H σ) (h : Ed K ow dn te d) (k : ∀ H', Wd K F ow dn (xt G H H') H' σ → D.nx σ H') : tDrop te D σ H :=
  h σ G H w.wx _ fun v H' e r => k H' (w.ext e)

/-- a statement, then the rest, with a word between -/
def tCut (t u : TS) : TS := fun D σ H => ∃ Mid : L2.St → Hp → Prop, t { D with nx := Mid } σ H ∧ ∀ σ' H', Mid σ' H' → u D σ' H'
theorem pss_cut {X : Cx} {st : Stmt} {rest : List Stmt} (h1 : PS X st t) (h2 : PSs X rest u) : PSs X (st :: rest) (tCut t u) := by
  refine ⟨fun pins s σ H D I h => ?_⟩
  obtain ⟨Mid, hm, hu⟩ := h
  refine wpAny_execs_cons (thn (h1.run pins s σ H { D with nx := Mid } I hm) fun f s1 q => ?_)
  cases f with
  | next =>
    obtain ⟨σ', H', I', q⟩ := q
    exact h2.run pins s1 σ' H' D I' (hu σ' H' q)
  | ret v => exact q
  | brk => exact q
  | cont => exact q
/-- where the word is what is known -/
def Knows (K : PySem.W.Frag) (F : Fr) (ow : Ow) (dn : Dn) : L2.St → Hp → Prop := fun σ H => ∃ G, Wd K F ow dn G H σ
theorem x_cut (w : Wd K F ow dn G H σ) (ow' : Ow) (dn' : Dn) (h : t { D with nx := Knows K F ow' dn' } σ H) (k : ∀ σ' G' H', Wd K F ow' dn' G' H' σ' → u D σ' H') : tCut t u D σ H :=
  ⟨Knows K F ow' dn', h, fun σ' H' ⟨G', w⟩ => k σ' G' H' w⟩
/-- if c: x = e -/
theorem x_ifset {b : Bool} {i : Nat} {d0 : Dt} (w : Wd K F ow dn G H σ) (h : Et K ow dn tt b) (h0 : dn[i]? = some (some d0)) (h1 : b = true → Ed K ow dn te d)
    (k : ∀ σ' G' H', Wd K F ow (dn.set i (some (if b = true then d else d0))) G' H' σ' → u D σ' H') : tCut (tIf0 tt (tAsg te (gName i))) u D σ H := by
  refine x_cut w ow (dn.set i (some (if b = true then d else d0))) ?_ k
  refine x_if0 w h (fun hb H' w' => ?_) (fun hb H' w' => ?_)
  · refine x_set w' (h1 hb) fun v H'' w2 => ⟨_, by rw [if_pos hb]; exact w2⟩
  · refine ⟨_, w'.less (by rw [List.length_set]) fun j dj q => ?_⟩
    rw [if_neg (by rw [hb]; exact Bool.false_ne_true)] at q
    by_cases e : i = j
    · subst e
      rw [List.getElem?_set] at q
      rw [if_pos rfl] at q
      split at q
      · rw [h0, ← q]
      · cases q
    · rw [List.getElem?_set_ne e] at q
      exact q

/-! ### own lists and dicts -/
theorem nodup_snoc {l : List Addr} {a : Addr} (h : l.Nodup) (n : a ∉ l) : (l ++ [a]).Nodup := by
  rw [List.nodup_append]
  refine ⟨h, by simp, fun x hx y hy e => ?_⟩
  have q : y = a := by simpa using hy
  exact n (by rw [← q, ← e]; exact hx)
/-- a new object comes to be owned -/
theorem Wd.own {p : Addr} {ob : Ob} {G2 : Hp} (w : Wd K F ow dn G H σ) (e : Same H H2) (np : H p = none) (g1 : Same G G2) (g2 : Same G2 H2) (f : ∀ b o, G2 b = some o → G b = some o ∨ H b = none) (o : OwnOk K G2 H2 (p, ob)) : Wd K F (ow ++ [(p, ob)]) dn G2 H2 σ where
  wx := {
    gh := g2
    en := fun i d h => by
      obtain ⟨v, q, r⟩ := w.wx.en i d h
      exact ⟨v, q, r.mono g1⟩
    len := w.wx.len
    own := fun q hq => by
      rcases List.mem_append.mp hq with hq | hq
      · have h := w.wx.own q hq
        obtain ⟨u, hu⟩ := h.there
        refine h.mono g1 ?_ (by rw [hu]; exact e _ _ hu)
        cases k : G2 q.1 with
        | none => rfl
        | some z =>
          rcases f _ _ k with k | k
          · rw [h.1] at k; cases k
          · rw [hu] at k; cases k
      · have z : q = (p, ob) := by simpa using hq
        rw [z]; exact o
    nd := by
      rw [List.map_append]
      refine nodup_snoc w.wx.nd fun hp => ?_
      obtain ⟨q, hq, z⟩ := List.mem_map.mp hp
      obtain ⟨u, hu⟩ := (w.wx.own q hq).there
      rw [z, np] at hu
      cases hu }
  hh := w.hh.trans e
  fp := fun b o h => by
    rcases f b o h with k | k
    · exact w.fp b o k
    · exact .inr (w.hh.free k)
  fr := fun q hq => by
    rcases List.mem_append.mp hq with hq | hq
    · exact w.fr q hq
    · have z : q = (p, ob) := by simpa using hq
      rw [z]
      exact .inl (w.hh.free np)
  sb := w.sb.trans g1
/-- x = a new object, kept as one's own -/
theorem x_own {i : Nat} {ob : Ob} (w : Wd K F ow dn G H σ) (h : BW.En K ow dn te ob) (k : ∀ a G' H', Wd K F (ow ++ [(a, ob)]) (dn.set i (some (.adr a))) G' H' (σ.set i (some (.ref a))) → D.nx (σ.set i (some (.ref a))) H') : tAsg te (gName i) D σ H :=
  h σ G H w.wx _ fun p H' e np G2 g1 g2 f o => k p G2 H' ((w.own e np g1 g2 f o).set (.adr p))
theorem mem_set_of {α : Type} {l : List α} {j : Nat} {a b : α} (h : b ∈ l.set j a) : b = a ∨ b ∈ l := by
  rcases List.mem_or_eq_of_mem_set h with h | h
  · exact .inr h
  · exact .inl h
theorem Wx.ne {K : PySem.W.Frag} {ow : Ow} {dn : Dn} {G H : Hp} {σ : L2.St} (w : Wx K ow dn G H σ) {n j : Nat} {p q : Addr × Ob} (h1 : ow[n]? = some p) (h2 : ow[j]? = some q) (e : j ≠ n) : p.1 ≠ q.1 := fun z => by
  have k1 : (ow.map (·.1))[n]? = some q.1 := by rw [List.getElem?_map, h1, ← z]; rfl
  have k2 : (ow.map (·.1))[j]? = some q.1 := by rw [List.getElem?_map, h2]; rfl
  obtain ⟨l1, e1⟩ := List.getElem?_eq_some_iff.mp k1
  obtain ⟨l2, e2⟩ := List.getElem?_eq_some_iff.mp k2
  exact e ((List.getElem_inj w.nd).mp (e2.trans e1.symm))
/-- an owned object is changed -/
theorem Wd.put {j : Nat} {a : Addr} {ob ob' : Ob} {o : HO} (w : Wd K F ow dn G H σ) (hj : ow[j]? = some (a, ob)) (new : OwnOk K G (upd H a o) (a, ob')) : Wd K F (ow.set j (a, ob')) dn G (upd H a o) σ := by
  have hm : (a, ob) ∈ ow := List.mem_of_getElem? hj
  have ho := w.wx.own _ hm
  have na : G a = none := ho.1
  have ge : Same G (upd H a o) := fun b x h => by
    have q : b ≠ a := fun z => by rw [z, na] at h; cases h
    rw [upd_ne q]; exact w.wx.gh b x h
  have hjl : j < ow.length := (List.getElem?_eq_some_iff.mp hj).1
  have keys : (ow.set j (a, ob')).map (·.1) = ow.map (·.1) := by
    rw [List.map_set]
    apply List.ext_getElem?
    intro n
    rw [List.getElem?_set]
    split
    · rename_i e
      subst e
      rw [if_pos (by simpa using hjl), List.getElem?_map, hj]
      rfl
    · rfl
  refine ⟨⟨ge, w.wx.en, w.wx.len, fun p hp => ?_, by rw [keys]; exact w.wx.nd⟩, ⟨fun b x n h => ?_, fun b x h => ?_⟩, w.fp, fun p hp => ?_, w.sb⟩
  · obtain ⟨n, hn⟩ := List.getElem?_of_mem hp
    by_cases e : j = n
    · subst e
      rw [List.getElem?_set_self hjl] at hn
      have q := Option.some.inj hn
      rw [← q]; exact new
    · rw [List.getElem?_set_ne e] at hn
      have h := w.wx.own p (List.mem_of_getElem? hn)
      exact h.mono (Same.refl G) h.1 (upd_ne (w.wx.ne hn hj e))
  · by_cases q : b = a
    · subst q
      rcases w.fr _ hm with k | k
      · have k : F.H0 b = none := k
        rw [h] at k; cases k
      · exact absurd k n
    · rw [upd_ne q]; exact w.hh.1 b x n h
  · by_cases q : b = a
    · exact ⟨o, by rw [q]; exact upd_same⟩
    · rw [upd_ne q]; exact w.hh.2 b x h
  · rcases mem_set_of hp with z | z
    · rw [z]; exact w.fr (a, ob) hm
    · exact w.fr p z
/-- xs.append(e) -/
theorem x_app {j : Nat} {a : Addr} {ds : List Dt} (w : Wd K F ow dn G H σ) (hj : ow[j]? = some (a, .lst ds)) (ho : Ed K ow dn ta (.adr a)) (h : Ed K ow dn te d) (hz : ds.length < 1000000)
    (k : ∀ G' H', Wd K F (ow.set j (a, .lst (ds ++ [d]))) dn G' H' σ → D.nx σ H') : tDrop (tBM K "list" rAppend ta (tCons te tNil)) D σ H :=
  ho σ G H w.wx _ fun v H1 e1 r1 => by
    have w1 := w.ext e1
    have z := r1.a
    subst z
    obtain ⟨vs0, q0, _⟩ := (w1.wx.own _ (List.mem_of_getElem? hj)).2
    refine ⟨.inl ⟨rfl, vs0, SqL.of q0⟩, h σ _ H1 w1.wx _ fun u H2 e2 r2 => ?_⟩
    have w2 := w1.ext e2
    obtain ⟨vs, q, r⟩ := (w2.wx.own _ (List.mem_of_getElem? hj)).2
    refine ⟨a, vs, u, rfl, rfl, q, by rw [r.length]; exact sz_lt hz, ?_⟩
    exact k _ _ (w2.put hj ⟨(w2.wx.own _ (List.mem_of_getElem? hj)).1, _, upd_same, r.append (.cons r2 .nil)⟩)
/-- an owned object is done: it is data from now on -/
theorem Wd.freeze {j : Nat} {a : Addr} {ob : Ob} (w : Wd K F ow dn G H σ) (hj : ow[j]? = some (a, ob)) (hM : a ∉ F.M) : Wd K F (ow.eraseIdx j) dn (plus G H a) H σ := by
  have hm : (a, ob) ∈ ow := List.mem_of_getElem? hj
  have na : G a = none := (w.wx.own _ hm).1
  refine ⟨⟨plus_le w.wx.gh, fun i d h => ?_, w.wx.len, fun p hp => ?_, ?_⟩, w.hh, fun b o h => ?_, fun p hp => w.fr p (List.mem_of_mem_eraseIdx hp), w.sb.trans (plus_ge na)⟩
  · obtain ⟨v, q, r⟩ := w.wx.en i d h
    exact ⟨v, q, r.mono (plus_ge na)⟩
  · have hp' := List.mem_of_mem_eraseIdx hp
    have h := w.wx.own p hp'
    refine h.mono (plus_ge na) ?_ rfl
    have ne : p.1 ≠ a := by
      obtain ⟨n, hn⟩ := List.getElem?_of_mem hp
      rw [List.getElem?_eraseIdx] at hn
      split at hn
      · exact w.wx.ne hn hj (by omega)
      · exact w.wx.ne hn hj (by omega)
    rw [plus_ne ne]; exact h.1
  · have := w.wx.nd.sublist (List.Sublist.map (·.1) (List.eraseIdx_sublist ow j))
    exact this
  · unfold plus at h
    by_cases q : b = a
    · subst q
      rcases w.fr _ hm with k | k
      · exact .inr k
      · exact absurd k hM
    · rw [if_neg q] at h; exact w.fp b o h
theorem Wx.frozen {j i : Nat} {a : Addr} {ob : Ob} (w : Wx K ow dn G H σ) (hj : ow[j]? = some (a, ob)) (hi : dn[i]? = some (some (.adr a))) : Wx K (ow.eraseIdx j) (dn.set i (some ob.dt)) (plus G H a) H σ := by
  have hm : (a, ob) ∈ ow := List.mem_of_getElem? hj
  have na : G a = none := (w.own _ hm).1
  have r := (w.own _ hm).rp
  obtain ⟨v, q, rv⟩ := w.en i _ hi
  have e := rv.a
  subst e
  refine ⟨plus_le w.gh, fun n d h => ?_, by rw [List.length_set]; exact w.len, fun p hp => ?_, w.nd.sublist (List.Sublist.map (·.1) (List.eraseIdx_sublist ow j))⟩
  · by_cases e : i = n
    · subst e
      rw [List.getElem?_set, if_pos rfl] at h
      split at h
      · have z := Option.some.inj (Option.some.inj h)
        subst z
        exact ⟨_, q, r⟩
      · cases h
    · rw [List.getElem?_set_ne e] at h
      obtain ⟨v, q, r⟩ := w.en n d h
      exact ⟨v, q, r.mono (plus_ge na)⟩
  · have h := w.own p (List.mem_of_mem_eraseIdx hp)
    refine h.mono (plus_ge na) ?_ rfl
    have ne : p.1 ≠ a := by
      obtain ⟨n, hn⟩ := List.getElem?_of_mem hp
      rw [List.getElem?_eraseIdx] at hn
      split at hn
      · exact w.ne hn hj (by omega)
      · exact w.ne hn hj (by omega)
    rw [plus_ne ne]; exact h.1
/-- .. and the slot that holds it tells it -/
theorem Wd.frozen {j i : Nat} {a : Addr} {ob : Ob} (w : Wd K F ow dn G H σ) (hj : ow[j]? = some (a, ob)) (hi : dn[i]? = some (some (.adr a))) (hM : a ∉ F.M) : Wd K F (ow.eraseIdx j) (dn.set i (some ob.dt)) (plus G H a) H σ := by
  have w2 := w.freeze hj hM
  exact ⟨w.wx.frozen hj hi, w2.hh, w2.fp, w2.fr, w2.sb⟩
/-- an expression that reads an owned object and gives a scalar -/
theorem ed_bor {j i : Nat} {a : Addr} {ob : Ob} (hj : ow[j]? = some (a, ob)) (hi : dn[i]? = some (some (.adr a))) (h : Ed K (ow.eraseIdx j) (dn.set i (some ob.dt)) te d) (s : d.sc = true) : Ed K ow dn te d := fun σ G H w Q q =>
  h σ _ H (w.frozen hj hi) Q fun v H2 e r => q v H2 e (r.sc s)
theorem et_bor {b : Bool} {j i : Nat} {a : Addr} {ob : Ob} (hj : ow[j]? = some (a, ob)) (hi : dn[i]? = some (some (.adr a))) (h : Et K (ow.eraseIdx j) (dn.set i (some ob.dt)) tt b) : Et K ow dn tt b := fun σ G H w Q q =>
  h σ _ H (w.frozen hj hi) Q q

/-! ### loops -/
/-- less is known of the slots -/
def Le (dn' dn : Dn) : Prop := dn'.length = dn.length ∧ ∀ (i : Nat) (d : Dt), dn'[i]? = some (some d) → dn[i]? = some (some d)
theorem Le.refl (dn : Dn) : Le dn dn := ⟨rfl, fun _ _ h => h⟩
theorem Le.drop (dn : Dn) (j : Nat) : Le (dn.set j none) dn := ⟨List.length_set, fun i d h => by
  by_cases e : j = i
  · subst e
    rw [List.getElem?_set, if_pos rfl] at h
    split at h <;> cases h
  · rw [List.getElem?_set_ne e] at h; exact h⟩
theorem Le.trans {a b c : Dn} (h : Le a b) (k : Le b c) : Le a c := ⟨h.1.trans k.1, fun i d q => k.2 i d (h.2 i d q)⟩
/-- a slot forgotten -/
theorem Le.one {dn : Dn} {j : Nat} {x : Option Dt} : Le (dn.set j none) (dn.set j x) := by
  have h := Le.drop (dn.set j x) j
  rw [List.set_set] at h
  exact h
theorem Le.nil : Le [] [] := Le.refl _
theorem Le.same {a b : Dn} {d : Option Dt} (h : Le a b) : Le (d :: a) (d :: b) := ⟨by show _ + 1 = _ + 1; rw [h.1], fun i x q => by
  cases i with
  | zero => exact q
  | succ i => exact h.2 i x q⟩
theorem Le.skip {a b : Dn} {d : Option Dt} (h : Le a b) : Le (none :: a) (d :: b) := ⟨by show _ + 1 = _ + 1; rw [h.1], fun i x q => by
  cases i with
  | zero =>
    have z := Option.some.inj q
    cases z
  | succ i => exact h.2 i x q⟩
theorem Knows.mk {dn' : Dn} (w : Wd K F ow dn G H σ) (l : Le dn' dn) : Knows K F ow dn' σ H := ⟨G, w.less l.1 l.2⟩
/-- what holds at a turn -/
def At (K : PySem.W.Frag) (F : Fr) (P : Ow → Dn → Prop) : L2.St → Hp → Prop := fun σ H => ∃ ow dn dn' G, P ow dn' ∧ Le dn' dn ∧ Wd K F ow dn G H σ
theorem At.mk {P : Ow → Dn → Prop} {dn' : Dn} (w : Wd K F ow dn G H σ) (p : P ow dn') (l : Le dn' dn := by exact Le.refl _) : At K F P σ H := ⟨ow, dn, dn', G, p, l, w⟩
theorem At.get {P : Ow → Dn → Prop} (h : At K F P σ H) : ∃ ow dn G, P ow dn ∧ Wd K F ow dn G H σ := by
  obtain ⟨ow, dn, dn', G, p, l, w⟩ := h
  exact ⟨ow, dn', G, p, w.less l.1 l.2⟩
theorem x_cutA (w : Wd K F ow dn G H σ) (P : Ow → Dn → Prop) (h : t { D with nx := At K F P } σ H) (k : ∀ ow' dn' σ' G' H', P ow' dn' → Wd K F ow' dn' G' H' σ' → u D σ' H') : tCut t u D σ H :=
  ⟨At K F P, h, fun σ' H' p => by
    obtain ⟨ow', dn', G', p, w'⟩ := p.get
    exact k ow' dn' σ' G' H' p w'⟩
/-- for i in range(n) -/
theorem x_forR1 {tr : TA} {i : Nat} {n : Int} (w : Wd K F ow dn G H σ) (h : Ea K ow dn tr [.int n]) (hn : -(2 ^ 62) ≤ n ∧ n < 2 ^ 62) (P : Nat → Ow → Dn → Prop) (h0 : ∃ dn', P 0 ow dn' ∧ Le dn' dn)
    (hs : ∀ (m : Nat) ow' dn' (σ' : L2.St) G' H' v, (m : Int) < n → P m ow' dn' → Wd K F ow' (dn'.set i (some (.int m))) G' H' (σ'.set i (some v)) → t { D with nx := At K F (P (m + 1)), ct := At K F (P (m + 1)), bk := D.nx } (σ'.set i (some v)) H')
    (hd : ∀ ow' dn' σ' G' H', P n.toNat ow' dn' → Wd K F ow' dn' G' H' σ' → D.nx σ' H') : tFor (iRng1 tr) (gName i) t D σ H :=
  h σ G H w.wx _ fun vs H1 e1 r1 => by
    obtain ⟨v, rfl, r⟩ := r1.one
    refine ⟨n, by rw [r.i], hn.1, hn.2, for_range (fun m σ H => At K F (P m) σ H) ?_ (fun m σ' H' hm hp => ?_) (fun σ' H' hp => ?_)⟩
    · obtain ⟨dn', p, l⟩ := h0
      exact At.mk (w.ext e1) p l
    · obtain ⟨ow', dn', G', p, w'⟩ := hp.get
      have e0 : (0 : Int) + (m : Int) = (m : Int) := Int.zero_add _
      rw [e0]
      exact hs m ow' dn' σ' G' H' _ (by omega) p (w'.set (.int m))
    · obtain ⟨ow', dn', G', p, w'⟩ := hp.get
      exact hd ow' dn' σ' G' H' p w'
/-- for i in range(lo, n) -/
theorem x_forR2 {tr : TA} {i : Nat} {lo n : Int} (w : Wd K F ow dn G H σ) (h : Ea K ow dn tr [.int lo, .int n]) (hl : -(2 ^ 62) ≤ lo ∧ lo < 2 ^ 62) (hn : -(2 ^ 62) ≤ n ∧ n < 2 ^ 62) (P : Nat → Ow → Dn → Prop) (h0 : ∃ dn', P 0 ow dn' ∧ Le dn' dn)
    (hs : ∀ (m : Nat) ow' dn' (σ' : L2.St) G' H' v, lo + (m : Int) < n → P m ow' dn' → Wd K F ow' (dn'.set i (some (.int (lo + m)))) G' H' (σ'.set i (some v)) → t { D with nx := At K F (P (m + 1)), ct := At K F (P (m + 1)), bk := D.nx } (σ'.set i (some v)) H')
    (hd : ∀ ow' dn' σ' G' H', P (n - lo).toNat ow' dn' → Wd K F ow' dn' G' H' σ' → D.nx σ' H') : tFor (iRng2 tr) (gName i) t D σ H :=
  h σ G H w.wx _ fun vs H1 e1 r1 => by
    obtain ⟨v, u, rfl, r, r'⟩ := r1.two
    refine ⟨lo, n, by rw [r.i, r'.i], ⟨hl.1, hl.2, hn.1, hn.2⟩, for_range (fun m σ H => At K F (P m) σ H) ?_ (fun m σ' H' hm hp => ?_) (fun σ' H' hp => ?_)⟩
    · obtain ⟨dn', p, l⟩ := h0
      exact At.mk (w.ext e1) p l
    · obtain ⟨ow', dn', G', p, w'⟩ := hp.get
      exact hs m ow' dn' σ' G' H' _ (by omega) p (w'.set (.int _))
    · obtain ⟨ow', dn', G', p, w'⟩ := hp.get
      exact hd ow' dn' σ' G' H' p w'
/-- for target in xs, a list of data: g as the target's rule tells -/
theorem x_forLg {g : TG} {tl : TE} {ds : List Dt} (w : Wd K F ow dn G H σ) (h : Ed K ow dn tl (.lst ds)) (P : Nat → Ow → Dn → Prop) (h0 : ∃ dn', P 0 ow dn' ∧ Le dn' dn)
    (hs : ∀ (m : Nat) d ow' dn' (σ' : L2.St) B G' H' v, ds[m]? = some d → P m ow' dn' → Wd K (F.to B) ow' dn' G' H' σ' → Rp K G' v d → g v σ' H' fun σ2 H2 => t { D with nx := At K (F.to B) (P (m + 1)), ct := At K (F.to B) (P (m + 1)), bk := D.nx } σ2 H2)
    (hd : ∀ ow' dn' σ' G' H', P ds.length ow' dn' → Wd K F ow' dn' G' H' σ' → D.nx σ' H') : tFor (iList K tl) g t D σ H :=
  h σ G H w.wx _ fun v H1 e1 r1 => by
    obtain ⟨a, vs, rfl, hs1, ra⟩ := r1.L
    have w1 := w.ext e1
    refine ⟨a, rfl, ⟨vs, w1.wx.gh.seq hs1⟩, for_list (xs := vs) (fun m σ H' => At K (F.to (xt G H H1)) (P m) σ H') ?_ (fun m σ' H' hm hp => ?_) (fun m x σ' H' hx hp => ?_) (fun σ' H' hp => ?_)⟩
    · obtain ⟨dn', p, l⟩ := h0
      exact At.mk (w1.base (Same.refl _)) p l
    · obtain ⟨ow', dn', G', p, w'⟩ := hp.get
      exact w'.wx.gh.seq (w'.sb.seq hs1)
    · obtain ⟨ow', dn', G', p, w'⟩ := hp.get
      obtain ⟨d, hd', rd⟩ := ra.get' hx
      exact hs m d ow' dn' σ' _ G' H' x hd' p w' (rd.mono w'.sb)
    · obtain ⟨ow', dn', G', p, w'⟩ := hp.get
      rw [ra.length] at p
      exact hd ow' dn' σ' G' H' p (w'.back w1.sb)
theorem x_forL {tl : TE} {i : Nat} {ds : List Dt} (w : Wd K F ow dn G H σ) (h : Ed K ow dn tl (.lst ds)) (P : Nat → Ow → Dn → Prop) (h0 : ∃ dn', P 0 ow dn' ∧ Le dn' dn)
    (hs : ∀ (m : Nat) d ow' dn' (σ' : L2.St) B G' H' v, ds[m]? = some d → P m ow' dn' → Wd K (F.to B) ow' (dn'.set i (some d)) G' H' (σ'.set i (some v)) → t { D with nx := At K (F.to B) (P (m + 1)), ct := At K (F.to B) (P (m + 1)), bk := D.nx } (σ'.set i (some v)) H')
    (hd : ∀ ow' dn' σ' G' H', P ds.length ow' dn' → Wd K F ow' dn' G' H' σ' → D.nx σ' H') : tFor (iList K tl) (gName i) t D σ H :=
  x_forLg w h P h0 (fun m d ow' dn' σ' B G' H' v e p w' r => hs m d ow' dn' σ' B G' H' v e p (w'.set r)) hd
end
end BW
namespace BW
open PySem L2 PySem.Spec PyProof.Rows
/-! ### the same ahead of a rest -/
section
variable {K : PySem.W.Frag} {F : Fr} {ow : Ow} {dn : Dn} {G H H2 : Hp} {σ : L2.St} {d : Dt} {te ta tb : TE} {tt : TT} {D : Ends} {t u t2 : TS}
theorem s_set {i : Nat} (w : Wd K F ow dn G H σ) (h : Ed K ow dn te d) (k : ∀ v H', Wd K F ow (dn.set i (some d)) (xt G H H') H' (σ.set i (some v)) → u D (σ.set i (some v)) H') : tSeq (tAsg te (gName i)) u D σ H := x_set w h k
theorem s_own {i : Nat} {ob : Ob} (w : Wd K F ow dn G H σ) (h : BW.En K ow dn te ob) (k : ∀ a G' H', Wd K F (ow ++ [(a, ob)]) (dn.set i (some (.adr a))) G' H' (σ.set i (some (.ref a))) → u D (σ.set i (some (.ref a))) H') : tSeq (tAsg te (gName i)) u D σ H := x_own w h k
theorem s_drop (w : Wd K F ow dn G H σ) (h : Ed K ow dn te d) (k : ∀ H', Wd K F ow dn (xt G H H') H' σ → u D σ H') : tSeq (tDrop te) u D σ H := x_drop w h k
theorem s_if {b : Bool} (w : Wd K F ow dn G H σ) (h : Et K ow dn tt b) (k1 : b = true → ∀ H', Wd K F ow dn (xt G H H') H' σ → t { D with nx := u D } σ H') (k2 : b = false → ∀ H', Wd K F ow dn (xt G H H') H' σ → t2 { D with nx := u D } σ H') : tSeq (tIfS tt t t2) u D σ H := x_if w h k1 k2
theorem s_if0 {b : Bool} (w : Wd K F ow dn G H σ) (h : Et K ow dn tt b) (k1 : b = true → ∀ H', Wd K F ow dn (xt G H H') H' σ → t { D with nx := u D } σ H') (k2 : b = false → ∀ H', Wd K F ow dn (xt G H H') H' σ → u D σ H') : tSeq (tIf0 tt t) u D σ H := x_if0 w h k1 k2
theorem s_if0T {b : Bool} (w : Wd K F ow dn G H σ) (h : Et K ow dn tt b) (e : b = true) (k : ∀ H', Wd K F ow dn (xt G H H') H' σ → t { D with nx := u D } σ H') : tSeq (tIf0 tt t) u D σ H := x_if0T w h e k
theorem s_if0F {b : Bool} (w : Wd K F ow dn G H σ) (h : Et K ow dn tt b) (e : b = false) (k : ∀ H', Wd K F ow dn (xt G H H') H' σ → u D σ H') : tSeq (tIf0 tt t) u D σ H := x_if0F w h e k
theorem s_app {j : Nat} {a : Addr} {ds : List Dt} (w : Wd K F ow dn G H σ) (hj : ow[j]? = some (a, .lst ds)) (ho : Ed K ow dn ta (.adr a)) (h : Ed K ow dn te d) (hz : ds.length < 1000000)
    (k : ∀ G' H', Wd K F (ow.set j (a, .lst (ds ++ [d]))) dn G' H' σ → u D σ H') : tSeq (tDrop (tBM K "list" rAppend ta (tCons te tNil))) u D σ H := x_app w hj ho h hz k
theorem s_forR1 {tr : TA} {i : Nat} {n : Int} (w : Wd K F ow dn G H σ) (h : Ea K ow dn tr [.int n]) (hn : -(2 ^ 62) ≤ n ∧ n < 2 ^ 62) (P : Nat → Ow → Dn → Prop) (h0 : ∃ dn', P 0 ow dn' ∧ Le dn' dn)
    (hs : ∀ (m : Nat) ow' dn' (σ' : L2.St) G' H' v, (m : Int) < n → P m ow' dn' → Wd K F ow' (dn'.set i (some (.int m))) G' H' (σ'.set i (some v)) → t { D with nx := At K F (P (m + 1)), ct := At K F (P (m + 1)), bk := u D } (σ'.set i (some v)) H')
    (hd : ∀ ow' dn' σ' G' H', P n.toNat ow' dn' → Wd K F ow' dn' G' H' σ' → u D σ' H') : tSeq (tFor (iRng1 tr) (gName i) t) u D σ H := x_forR1 w h hn P h0 hs hd
theorem s_forR2 {tr : TA} {i : Nat} {lo n : Int} (w : Wd K F ow dn G H σ) (h : Ea K ow dn tr [.int lo, .int n]) (hl : -(2 ^ 62) ≤ lo ∧ lo < 2 ^ 62) (hn : -(2 ^ 62) ≤ n ∧ n < 2 ^ 62) (P : Nat → Ow → Dn → Prop) (h0 : ∃ dn', P 0 ow dn' ∧ Le dn' dn)
    (hs : ∀ (m : Nat) ow' dn' (σ' : L2.St) G' H' v, lo + (m : Int) < n → P m ow' dn' → Wd K F ow' (dn'.set i (some (.int (lo + m)))) G' H' (σ'.set i (some v)) → t { D with nx := At K F (P (m + 1)), ct := At K F (P (m + 1)), bk := u D } (σ'.set i (some v)) H')
    (hd : ∀ ow' dn' σ' G' H', P (n - lo).toNat ow' dn' → Wd K F ow' dn' G' H' σ' → u D σ' H') : tSeq (tFor (iRng2 tr) (gName i) t) u D σ H := x_forR2 w h hl hn P h0 hs hd
theorem s_forL {tl : TE} {i : Nat} {ds : List Dt} (w : Wd K F ow dn G H σ) (h : Ed K ow dn tl (.lst ds)) (P : Nat → Ow → Dn → Prop) (h0 : ∃ dn', P 0 ow dn' ∧ Le dn' dn)
    (hs : ∀ (m : Nat) d ow' dn' (σ' : L2.St) B G' H' v, ds[m]? = some d → P m ow' dn' → Wd K (F.to B) ow' (dn'.set i (some d)) G' H' (σ'.set i (some v)) → t { D with nx := At K (F.to B) (P (m + 1)), ct := At K (F.to B) (P (m + 1)), bk := u D } (σ'.set i (some v)) H')
    (hd : ∀ ow' dn' σ' G' H', P ds.length ow' dn' → Wd K F ow' dn' G' H' σ' → u D σ' H') : tSeq (tFor (iList K tl) (gName i) t) u D σ H := x_forL w h P h0 hs hd
end
end BW

set_option Elab.async false
set_option linter.all false
set_option maxRecDepth 100000
set_option maxHeartbeats 4000000
/-! BW4: defs by name, built-ins by name, small choices, == of data without dicts. -/
namespace BW
open PySem L2 PySem.Spec

/-! ### defs by name -/
/-- the def st stands at the name x -/
structure Df (K : PySem.W.Frag) (mg : Str → Option Value) (x : Str) (st : Stmt) (ps : List Str) (f : Addr) (fd : FuncData) : Prop where
  fn : Fun K x x st f fd
  at' : mg x = some (.ref f)
  bd : Binds K fd ps []
/-- the name x is a def that keeps its promise -/
structure Cl (P : Program) (w : World) (K : PySem.W.Frag) (mg : Str → Option Value) (base : Heap) (k : Nat) (x : Str) (ps : List Str) (sp : Sp) : Prop where
  ex : ∃ f fd, FnOk P w K mg base CX0 k f fd ps sp ∧ mg x = some (.ref f) ∧ PySem.W.keepIn K (.ref f) = true ∧ Binds K fd ps []
section
variable {P : Program} {w : World} {K : PySem.W.Frag} {mg : Str → Option Value} {base : Heap} {k : Nat} {x : Str} {ps : List Str} {sp : Sp} {st : Stmt} {f : Addr} {fd : FuncData}
theorem Df.cl (F : Df K mg x st ps f fd) (h : FnOk P w K mg base CX0 k f fd ps sp) : Cl P w K mg base k x ps sp := ⟨⟨f, fd, h, F.at', F.fn.kp, F.bd⟩⟩
theorem Cl.mono {j : Nat} (C : Cl P w K mg base j x ps sp) (h : j ≤ k) : Cl P w K mg base k x ps sp := by
  obtain ⟨f, fd, h1, h2⟩ := C.ex
  exact ⟨⟨f, fd, h1.mono h, h2⟩⟩
end
section
variable {X : Cx} {k j : Nat} {x : Str} {ps : List Str} {sp : Sp} {p pos : Pos} {e : Expr} {es : List Expr} {t : TA}
theorem pe_cl (C : Cl X.prog X.w X.K X.mg X.base k x ps sp) (hr : Room j X.A) (hkj : k ≤ j) (hg : Gl X x) (ha : PA X (e :: es) t) (hx : Passes CX0 X E0 := by exact pass0)
    (hdb : (x == ("__debug__" : Str)) = false := by decide) (he : starEach (e :: es) X.env = (false, eval e X.env) :: starEach es X.env := by rfl) (hpl : (backTo pos (starEach es X.env)).any (·.1) = false := by rfl) :
    PE X (.Call (.Name x p) (e :: es) [] pos) (tCall sp [] E0 t) := by
  obtain ⟨f, fd, h1, h2, h3, h4⟩ := C.ex
  exact pe_call h1 (hr.mono hkj) hg h2 h3 h4 .nil hx ha hdb he hpl
end

/-! ### built-ins by name -/
def Free (mg : Str → Option Value) (xs : List Str) : Prop := ∀ x ∈ xs, mg x = none
theorem Free.nil {mg : Str → Option Value} : Free mg [] := fun _ h => (List.not_mem_nil h).elim
theorem Free.cons {mg : Str → Option Value} {x : Str} {xs : List Str} (h : mg x = none) (r : Free mg xs) : Free mg (x :: xs) := fun y hy => by
  rcases List.mem_cons.mp hy with e | e
  · rw [e]; exact h
  · exact r y e
theorem bt_len : bootBuiltins "len" = some (.builtin "len") := by decide +kernel
theorem bt_min : bootBuiltins "min" = some (.builtin "min") := by decide +kernel
theorem bt_max : bootBuiltins "max" = some (.builtin "max") := by decide +kernel
theorem bt_sum : bootBuiltins "sum" = some (.builtin "sum") := by decide +kernel
theorem bt_all : bootBuiltins "all" = some (.builtin "all") := by decide +kernel
theorem bt_sorted : bootBuiltins "sorted" = some (.builtin "sorted") := by decide +kernel
theorem bt_isinstance : bootBuiltins "isinstance" = some (.builtin "isinstance") := by decide +kernel
theorem bt_int : bootBuiltins "int" = some (.type "int") := by decide +kernel
theorem bt_bool : bootBuiltins "bool" = some (.type "bool") := by decide +kernel
theorem bt_str : bootBuiltins "str" = some (.type "str") := by decide +kernel
theorem bt_list : bootBuiltins "list" = some (.type "list") := by decide +kernel
theorem bt_tuple : bootBuiltins "tuple" = some (.type "tuple") := by decide +kernel
theorem bt_dict : bootBuiltins "dict" = some (.type "dict") := by decide +kernel
theorem bt_set : bootBuiltins "set" = some (.type "set") := by decide +kernel
theorem bt_zip : bootBuiltins "zip" = some (.type "zip") := by decide +kernel
section
variable {X : Cx}
/-- a built-in type by its name, as a value -/
theorem pe_ty {x : Str} {n : String} {pos : Pos} (hg : Gl X x) (hm : X.mg x = none) (hv : bootBuiltins x = some (.type n)) (hn : x ≠ "__name__" := by decide) (hd : (x == ("__debug__" : Str)) = false := by decide) : PE X (.Name x pos) (tC (.ty n)) :=
  pe_bltn hg hm hv rfl hn hd
end

section
variable {X : Cx}
/-- a whole number of the module's top -/
theorem pe_globI {x : Str} {n : Int} {pos : Pos} (hg : Gl X x) (h : ∃ t, X.mg x = some (.int n t)) (hd : (x == ("__debug__" : Str)) = false := by decide) : PE X (.Name x pos) (tC (.int n)) := by
  obtain ⟨t, h⟩ := h
  exact pe_glob hg h ⟨t, rfl⟩ hd
end
/-! ### a law's end -/
theorem sp_end {K : PySem.W.Frag} {R : List Dt → Dt → Prop} {H : Hp} {a : Addr} {ns : List Int} (hR : R [.lst (ns.map .int)] (.bl true)) (hS : SqL K H a (ns.map V.int)) : SpR K R [.ref a] H (fun v _ => v = .bl true) fun _ _ _ => False :=
  ⟨H, [.lst (ns.map .int)], .bl true, Same.refl H, .cons (.lst hS (RpA.of_ints ns)) .nil, hR, fun v H' _ r => r.b⟩

/-! ### one of a few, by its place -/
section
variable {α : Type}
def sel2 (i : Int) (a b : α) : α := if i = 0 then a else b
def sel3 (i : Int) (a b c : α) : α := if i = 0 then a else if i = 1 then b else c
def sel4 (i : Int) (a b c d : α) : α := if i = 0 then a else if i = 1 then b else if i = 2 then c else d
theorem at2 {i : Int} {a b : α} (h : 0 ≤ i ∧ i < 2) : atI [a, b] i = some (sel2 i a b) := by
  obtain e | e : i = 0 ∨ i = 1 := by omega
  all_goals (subst e; rfl)
theorem at3 {i : Int} {a b c : α} (h : 0 ≤ i ∧ i < 3) : atI [a, b, c] i = some (sel3 i a b c) := by
  obtain e | e | e : i = 0 ∨ i = 1 ∨ i = 2 := by omega
  all_goals (subst e; rfl)
theorem at4 {i : Int} {a b c d : α} (h : 0 ≤ i ∧ i < 4) : atI [a, b, c, d] i = some (sel4 i a b c d) := by
  obtain e | e | e | e : i = 0 ∨ i = 1 ∨ i = 2 ∨ i = 3 := by omega
  all_goals (subst e; rfl)
end
theorem at2i {i : Int} {a b : Int} (h : 0 ≤ i ∧ i < 2) : atI [Dt.int a, .int b] i = some (.int (sel2 i a b)) := by
  obtain e | e : i = 0 ∨ i = 1 := by omega
  all_goals (subst e; rfl)
theorem at3i {i : Int} {a b c : Int} (h : 0 ≤ i ∧ i < 3) : atI [Dt.int a, .int b, .int c] i = some (.int (sel3 i a b c)) := by
  obtain e | e | e : i = 0 ∨ i = 1 ∨ i = 2 := by omega
  all_goals (subst e; rfl)
theorem at4i {i : Int} {a b c d : Int} (h : 0 ≤ i ∧ i < 4) : atI [Dt.int a, .int b, .int c, .int d] i = some (.int (sel4 i a b c d)) := by
  obtain e | e | e | e : i = 0 ∨ i = 1 ∨ i = 2 ∨ i = 3 := by omega
  all_goals (subst e; rfl)
/-- a list's item at a place -/
theorem at_n {ds : List Dt} {i : Int} (h : 0 ≤ i ∧ i < ds.length) : atI ds i = some (ds.getD i.toNat .non) := by
  obtain ⟨n, rfl⟩ : ∃ n : Nat, i = n := ⟨i.toNat, by omega⟩
  have hl : n < ds.length := by omega
  rw [atI_nat (v := ds[n]) (List.getElem?_eq_getElem hl)]
  simp [hl]
theorem at_ints {ns : List Int} {i : Int} (h : 0 ≤ i ∧ i < ns.length) : atI (ns.map Dt.int) i = some (.int (ns.getD i.toNat 0)) := by
  obtain ⟨n, rfl⟩ : ∃ n : Nat, i = n := ⟨i.toNat, by omega⟩
  have hl : n < ns.length := by omega
  rw [atI_nat (v := Dt.int ns[n]) (by rw [List.getElem?_map, List.getElem?_eq_getElem hl]; rfl)]
  simp [hl]
theorem at_strs {ns : List Str} {i : Int} (h : 0 ≤ i ∧ i < ns.length) : atI (ns.map Dt.str) i = some (.str (ns.getD i.toNat (Str.ofString ""))) := by
  obtain ⟨n, rfl⟩ : ∃ n : Nat, i = n := ⟨i.toNat, by omega⟩
  have hl : n < ns.length := by omega
  rw [atI_nat (v := Dt.str ns[n]) (by rw [List.getElem?_map, List.getElem?_eq_getElem hl]; rfl)]
  simp [hl]

/-! ### == of data without dicts -/
mutual
def toP : Dt → PyData
  | .non => .none
  | .bl b => .bool b
  | .int i => .int i
  | .str x => .str x
  | .tup xs => .tuple (toPs xs)
  | .lst xs => .list (toPs xs)
  | _ => .dict []
def toPs : List Dt → List PyData
  | [] => []
  | x :: xs => toP x :: toPs xs
end
mutual
def Dt.fl : Dt → Bool
  | .non | .bl _ | .int _ | .str _ => true
  | .tup xs => flA xs
  | .lst xs => flA xs
  | _ => false
def flA : List Dt → Bool
  | [] => true
  | x :: xs => x.fl && flA xs
end
section
variable {K : PySem.W.Frag} {H : Hp}
mutual
theorem Rp.dp : ∀ (d : Dt) {v : V}, Rp K H v d → d.fl = true → Dp K H v (toP d)
  | .non, _, h, _ => by cases h; exact .non
  | .bl b, _, h, _ => by cases h; exact .bl b
  | .int i, _, h, _ => by cases h; exact .int i
  | .str x, _, h, _ => by cases h; exact .str x
  | .tup xs, _, h, f => by
    cases h with
    | tup h r => exact .tup h (RpA.dp xs r f)
  | .lst xs, _, h, f => by
    cases h with
    | lst h r => exact .lst h (RpA.dp xs r f)
  | .ty _, _, _, f => by cases f
  | .adr _, _, _, f => by cases f
  | .dct _, _, _, f => by cases f
  | .ins _ _, _, _, f => by cases f
theorem RpA.dp : ∀ (ds : List Dt) {vs : List V}, RpA K H vs ds → flA ds = true → DpAll K H vs (toPs ds)
  | [], _, h, _ => by cases h; exact .nil
  | d :: ds, _, h, f => by
    cases h with
    | cons h r =>
      have f' : (d.fl && flA ds) = true := f
      rw [Bool.and_eq_true] at f'
      exact .cons (Rp.dp d h f'.1) (RpA.dp ds r f'.2)
end
end
section
variable {K : PySem.W.Frag} {ow : Ow} {dn : Dn} {ta tb : TE} {x y : Dt}
theorem ed_eqD (ha : Ed K ow dn ta x) (hb : Ed K ow dn tb y) (fx : x.fl = true := by rfl) (fy : y.fl = true := by rfl) (sx : SeqAt.shaped (toP x) = true := by rfl) (sy : SeqAt.shaped (toP y) = true := by rfl) : Ed K ow dn (tOp (rEqD K) ta tb) (.bl (PyData.eqv (toP x) (toP y))) :=
  ed_op ha hb fun G H e v u r1 r2 Q q => ⟨toP x, toP y, (r1.mono e).dp _ fx, (r2.mono e).dp _ fy, sx, sy, q _ H (Same.refl H) (.bl _)⟩
theorem ed_neD (ha : Ed K ow dn ta x) (hb : Ed K ow dn tb y) (fx : x.fl = true := by rfl) (fy : y.fl = true := by rfl) (sx : SeqAt.shaped (toP x) = true := by rfl) (sy : SeqAt.shaped (toP y) = true := by rfl) : Ed K ow dn (tOp (rNeD K) ta tb) (.bl (!PyData.eqv (toP x) (toP y))) :=
  ed_op ha hb fun G H e v u r1 r2 Q q => ⟨toP x, toP y, (r1.mono e).dp _ fx, (r2.mono e).dp _ fy, sx, sy, q _ H (Same.refl H) (.bl _)⟩
end
end BW

set_option Elab.async false
set_option linter.all false
set_option maxRecDepth 100000
set_option maxHeartbeats 4000000
/-! BW5: set of a list of ints, sorted of it, copies, in, == of lists of ints. -/
namespace BW
open PySem L2 PySem.Spec PyProof.Rows

section
variable {P : Program} {w : World} {A : Around} {E : Value → Shared → Prop} {s : Shared}
/-- the empty set as set() lays it -/
abbrev emptySet (w : World) : Obj := { cls := .type "set", dict := none, data := .set #[] 0 (.fresh 0 0 (!w.params.followText "set-order")) }
/-- the heap with it -/
abbrev withSet (w : World) (h : Heap) : Heap := h.push (emptySet w)

set_option maxRecDepth 100000 in
set_option maxHeartbeats 3200000 in
/-- set(xs) of a list of ints: what the table needs to be walked later is told -/
theorem set_of_list {l : Addr} {items : Array Value} (ns : List Int) {Q : Value → Shared → Prop} (hh : A.handled = none) (hl : s.heap.IsList l items) (hit : IntsAre items.toList ns) (hb : ns.length + 1 < scanBound)
    (h : ∀ (h' : Heap) (tk c : Nat), SetR w h' s.heap.objs.size (fun j => decide (j ∈ ns)) c → c ≤ ns.length → (∀ b o, s.heap.get? b = some o → h'.get? b = some o) → Q (.ref s.heap.objs.size) { s with heap := h', toks := tk }) :
    wpAny (model P w) A (call (.type "set") [.ref l]) Q E s := by
  have size_eq : items.size = ns.length := by
    have q := IntsAre.length hit
    simpa using q
  obtain ⟨_, _, mro⟩ := PySem.F.called_set.mro
  have made := PySem.F.called_set.made
  have sub := PySem.F.called_set.sub
  have nt := PySem.F.called_set.notType
  have cc := PySem.F.called_set.canCreate
  have tc := PySem.F.typeCall_set_1 (.ref l)
  refine wpAny_call (codeAny_of_tree ?_)
  show wpAny _ _ (callAny (.type "set") _) _ _ _
  refine wpAny_pure ⟨Code.quiet_builtin _ (by decide +kernel), codeAny_builtin PySem.F.entry_type_call ?_⟩
  rw [Around.under_plain (weight_type_call_type "set" [.ref l] []) rfl]
  repeat (any_goals (first | assumption | wp_step))
  refine codeAny_mono (code_set_led1 (.ref l) (E := E) (Q₁ := fun obj t => obj = .ref s.heap.objs.size ∧ t = { s with heap := withSet w s.heap }) ⟨rfl, rfl⟩) fun r t hr => ?_
  rcases r with e | fl
  · exact hr
  cases fl with
  | next => exact hr.elim
  | brk => exact hr.elim
  | cont => exact hr.elim
  | ret obj =>
    obtain ⟨rfl, rfl⟩ := hr
    have at0 : (withSet w s.heap).get? s.heap.objs.size = some (emptySet w) := Heap.get?_push_size _ rfl
    have is0 : Shared.TypeIs { s with heap := withSet w s.heap } (.ref s.heap.objs.size) "set" := ⟨_, at0, rfl⟩
    have lk := PySem.F.called_set.init.lookup
    have bd := PySem.F.called_set.init.bind (.ref s.heap.objs.size)
    repeat (any_goals (first | assumption | wp_step))
    refine codeAny_mono (codeAny_call_builtin (R := wants (fun r t => r = .none ∧ ∃ h' tk c, t = { s with heap := h', toks := tk } ∧ SetR w h' s.heap.objs.size (fun j => decide (j ∈ ns)) c ∧ c ≤ ns.length ∧
        (∀ b o, s.heap.get? b = some o → h'.get? b = some o)) E) PySem.F.called_set.init.plain PySem.F.entry_set_init (check_set_init_1 is0 ?_)) fun r2 t2 hr2 => ?_
    · obtain ⟨ol, hol, hcl, nl, hdl⟩ := hl
      obtain ⟨ocls, odict, odata, oslots⟩ := ol
      simp only at hcl hdl
      subst hcl; subst hdl
      have lst1 : (withSet w s.heap).get? l = some { cls := .type "list", dict := odict, data := .seq items nl, slots := oslots } := Heap.get?_push_of_some _ hol
      have s1 := PySem.F.sub_list_set
      have s2 := PySem.F.sub_list_frozenset
      have nd : (Value.type "list" == Value.type "dict") = false := by decide
      have isl : (withSet w s.heap).IsList l items := ⟨_, lst1, rfl, nl, rfl⟩
      unfold Builtin.«set.__init__» noKeywords Builtin.Frozenset.updateFrom
      generalize hPI : pyIter = PI
      wp_walk
      subst hPI
      refine wpAny_pyIter_list isl ?_
      refine wpAny_bind (wpAny_runValue ?_)
      have ll : l < s.heap.objs.size := Heap.lt_size hol
      have hh3 : A.in1.in1.in1.handled = none := by simp [hh]
      have sz1 : (withSet w s.heap).objs.size = s.heap.objs.size + 1 := Heap.size_push ..
      have ne1 : l ≠ (withSet w s.heap).objs.size := by rw [sz1]; exact Nat.ne_of_lt (Nat.lt_succ_of_lt ll)
      have ne2 : s.heap.objs.size ∉ [(withSet w s.heap).objs.size, l] := by
        rw [sz1]
        simp only [List.mem_cons, List.mem_singleton, List.not_mem_nil, or_false, not_or]
        exact ⟨Nat.ne_of_lt (Nat.lt_succ_self _), Nat.ne_of_gt ll⟩
      have val : ∀ (i : Nat) (v : Value), items[i]? = some v → ∃ k t, ns[i]? = some k ∧ v = .int k t := fun i v hv => by
        have hi : i < ns.length := by rw [← size_eq]; exact (Array.getElem?_eq_some_iff.mp hv).1
        obtain ⟨t, e⟩ := PyProof.Rows.IntsAre.int_at hit i v (by rw [Array.getElem?_toList]; exact hv)
        refine ⟨ns[i], t, List.getElem?_eq_getElem hi, ?_⟩
        rw [e, List.getD_eq_getElem?_getD, List.getElem?_eq_getElem hi]
        rfl
      refine set_update_ints ((Walks.list hh3 _ l ne1 items).toS) s.heap.objs.size ne2 ns size_eq hb val (items.size - 0) 0 _ (by omega) (Nat.zero_le _)
        ⟨⟨_, Heap.get?_push_size _ rfl, rfl, rfl⟩, (isl.push _)⟩ ⟨0, Nat.le_refl 0, setR_new_at (Heap.get?_push_of_some _ at0)⟩ fun t' c' hm hc' hS' => ?_
      obtain ⟨h', g2, d', tk', os'⟩ := t'
      obtain rfl : g2 = s.gens := hm.gens
      obtain rfl : d' = s.drawn := hm.drawn
      obtain rfl : os' = s.os := hm.os
      show wpAny _ _ _ _ _ _
      refine wpAny_pure ?_
      show wpAny _ _ (ret Value.none) _ _ _
      rw [size_eq] at hc'
      refine wpAny_pure ⟨rfl, h', tk', c', rfl, hS', hc', fun b o e => ?_⟩
      have lb : b < s.heap.objs.size := Heap.lt_size e
      refine hm.heap b o ?_ (Heap.get?_push_of_some _ (Heap.get?_push_of_some _ e))
      simp only [List.mem_cons, List.mem_singleton, List.not_mem_nil, or_false, not_or]
      refine ⟨Nat.ne_of_lt lb, ?_⟩
      rw [sz1]
      exact Nat.ne_of_lt (Nat.lt_succ_of_lt lb)
    · rcases r2 with e | fl2
      · exact hr2
      cases fl2 with
      | next => exact hr2.elim
      | brk => exact hr2.elim
      | cont => exact hr2.elim
      | ret r =>
        obtain ⟨rfl, h', tk, c, rfl, hS', hc', hk'⟩ := hr2
        repeat (any_goals (first | assumption | wp_step))
        exact h _ _ _ hS' hc' hk'
end
section
variable {X : Cx}
def rSetL (K : PySem.W.Frag) (w : World) : List V → Hp → VK → Prop := fun vs H Q => ∃ (a : Addr) (ns : List Int), vs = [.ref a] ∧ SqL K H a (ns.map V.int) ∧ ns.length + 1 < scanBound ∧
  ∀ (p : Addr) (c : Nat), H p = none → c ≤ ns.length → Q (.ref p) (upd H p (SetO w p (fun j => decide (j ∈ ns)) c))
theorem cr_setL (hc : X.calm = true) : CallR X (.type "set") (rSetL X.K X.w) := by
  intro pins s σ H vs us Q I r h
  obtain ⟨a, ns, rfl, ha, hb, q⟩ := h
  rw [Vals.ref1 r]
  obtain ⟨its, rv, pl, hz⟩ := I.list ha
  have ia : IntsAre its.toArray.toList ns := by simpa using Vals.ints rv
  refine set_of_list ns (I.ok.hd hc) pl.isList ia hb fun h' tk c hS hcn k => ?_
  have hp : s.heap.objs.size ≤ s.heap.objs.size := Nat.le_refl _
  have J : Inv X pins σ (upd H s.heap.objs.size (SetO X.w s.heap.objs.size (fun j => decide (j ∈ ns)) c)) { s with heap := h', toks := tk } := I.laid k hp (setO_new hS)
  exact ⟨.ref _, _, J, rfl, q _ c (I.hok.fresh hp) hcn⟩
end

/-! ### the members, rising, each once -/
def insS (x : Int) : List Int → List Int
  | [] => [x]
  | y :: r => if x < y then x :: y :: r else if x = y then y :: r else y :: insS x r
def srtS : List Int → List Int
  | [] => []
  | x :: r => insS x (srtS r)
theorem insS_mem (x z : Int) : ∀ l : List Int, z ∈ insS x l ↔ z = x ∨ z ∈ l
  | [] => by simp [insS]
  | y :: r => by
    unfold insS
    split
    · simp
    · split
      · rename_i h1 h2
        subst h2
        simp
      · rw [List.mem_cons, insS_mem x z r, List.mem_cons]
        constructor
        · rintro (h | h | h)
          · exact .inr (.inl h)
          · exact .inl h
          · exact .inr (.inr h)
        · rintro (h | h | h)
          · exact .inr (.inl h)
          · exact .inl h
          · exact .inr (.inr h)
theorem insS_ris (x : Int) : ∀ l : List Int, l.Pairwise (· < ·) → (insS x l).Pairwise (· < ·)
  | [], _ => by simp [insS]
  | y :: r, h => by
    obtain ⟨h1, h2⟩ := List.pairwise_cons.mp h
    unfold insS
    split
    · rename_i hx
      refine List.pairwise_cons.mpr ⟨fun z hz => ?_, h⟩
      rcases List.mem_cons.mp hz with e | e
      · omega
      · have := h1 z e; omega
    · split
      · exact h
      · refine List.pairwise_cons.mpr ⟨fun z hz => ?_, insS_ris x r h2⟩
        rcases (insS_mem x z r).mp hz with e | e
        · omega
        · exact h1 z e
theorem srtS_mem (z : Int) : ∀ l : List Int, z ∈ srtS l ↔ z ∈ l
  | [] => by simp [srtS]
  | x :: r => by
    unfold srtS
    rw [insS_mem, srtS_mem z r, List.mem_cons]
theorem srtS_ris : ∀ l : List Int, (srtS l).Pairwise (· < ·)
  | [] => List.Pairwise.nil
  | x :: r => insS_ris x _ (srtS_ris r)
theorem ris_same : ∀ {a b : List Int}, a.Pairwise (· < ·) → b.Pairwise (· < ·) → (∀ z, z ∈ a ↔ z ∈ b) → a = b
  | [], [], _, _, _ => rfl
  | [], y :: r, _, _, h => absurd ((h y).mpr (by simp)) (by simp)
  | x :: r, [], _, _, h => absurd ((h x).mp (by simp)) (by simp)
  | x :: r, y :: t, ha, hb, h => by
    obtain ⟨a1, a2⟩ := List.pairwise_cons.mp ha
    obtain ⟨b1, b2⟩ := List.pairwise_cons.mp hb
    have hxy : x = y := by
      rcases List.mem_cons.mp ((h x).mp (by simp)) with e | e
      · exact e
      · rcases List.mem_cons.mp ((h y).mpr (by simp)) with e2 | e2
        · exact e2.symm
        · have k1 := b1 x e
          have k2 := a1 y e2
          omega
    subst hxy
    have : r = t := ris_same a2 b2 fun z => by
      constructor
      · intro hz
        rcases List.mem_cons.mp ((h z).mp (List.mem_cons_of_mem _ hz)) with e | e
        · have := a1 z hz; omega
        · exact e
      · intro hz
        rcases List.mem_cons.mp ((h z).mpr (List.mem_cons_of_mem _ hz)) with e | e
        · have := b1 z hz; omega
        · exact e
    rw [this]
theorem srtS_len : ∀ l : List Int, (srtS l).length ≤ l.length
  | [] => Nat.le_refl _
  | x :: r => by
    have key : ∀ l : List Int, (insS x l).length ≤ l.length + 1 := by
      intro l
      induction l with
      | nil => simp [insS]
      | cons y t ih =>
        unfold insS
        split
        · simp
        · split
          · simp
          · simp only [List.length_cons]; omega
    have := key (srtS r)
    have := srtS_len r
    show (insS x (srtS r)).length ≤ r.length + 1
    omega

section
variable {K : PySem.W.Frag} {ow : Ow} {dn : Dn} {ta tb : TE} {tr : TA} {w : World}
/-- sorted(set(xs)), xs fewer than 64 ints -/
theorem en_sortSet {ns : List Int} (h : Ea K ow dn tr [.lst (ns.map .int)]) (hl : ns.length < 64) : En K ow dn (tCB (rSortedSet w) (tCons (tCB (rSetL K w) tr) tNil)) (.lst ((srtS ns).map .int)) := fun σ G H wx Q q =>
  h σ G H wx _ fun vs H1 e1 r1 => by
    obtain ⟨v, rfl, r⟩ := r1.one
    obtain ⟨a, us, rfl, hs, ra⟩ := r.L
    rw [ra.ints] at hs
    refine ⟨a, ns, rfl, (xt_le wx.gh e1).seq hs, by unfold scanBound; omega, fun p c np hc => ?_⟩
    refine ⟨p, _, c, rfl, upd_same, by omega, fun ms p2 hr hm hlen np2 => ?_⟩
    have hms : ms = srtS ns := ris_same hr (srtS_ris ns) fun z => by rw [hm z, decide_eq_true_iff, srtS_mem]
    subst hms
    have n0 := e1.free np
    have e2 : Same H1 (upd H1 p (SetO w p (fun j => decide (j ∈ ns)) c)) := same_new np
    have e3 : Same (upd H1 p (SetO w p (fun j => decide (j ∈ ns)) c)) (upd (upd H1 p (SetO w p (fun j => decide (j ∈ ns)) c)) p2 (.lst ((srtS ns).map V.int))) := same_new np2
    have n2 := (e1.trans e2).free np2
    refine q p2 _ ((e1.trans e2).trans e3) n2 G (Same.refl G) (wx.gh.trans ((e1.trans e2).trans e3)) (fun b o k => .inl k) ⟨wx.gh.free n2, _, upd_same, RpA.of_ints _⟩
/-- list(xs) -/
theorem rcN_list {ds : List Dt} : RcN K (fun xs H Q => ∃ p ys, xs = [.ref p] ∧ (SqL K H p ys ∨ SqT K H p ys) ∧ ∀ l, H l = none → Q (.ref l) (upd H l (.lst ys))) [.lst ds] (.lst ds) := fun G H e vs r Q q => by
  obtain ⟨v, rfl, r1⟩ := r.one
  obtain ⟨a, us, rfl, hs, ra⟩ := r1.L
  exact ⟨a, us, rfl, .inl (e.seq hs), fun l nl => q l _ (same_new nl) nl G (Same.refl G) (e.trans (same_new nl)) (fun b o k => .inl k) ⟨e.free nl, us, upd_same, ra⟩⟩
theorem en_list {ds : List Dt} (h : Ea K ow dn tr [.lst ds]) : En K ow dn (tCB (fun xs H Q => ∃ p ys, xs = [.ref p] ∧ (SqL K H p ys ∨ SqT K H p ys) ∧ ∀ l, H l = none → Q (.ref l) (upd H l (.lst ys))) tr) (.lst ds) := en_cb h rcN_list
theorem ed_list {ds : List Dt} (h : Ea K ow dn tr [.lst ds]) : Ed K ow dn (tCB (fun xs H Q => ∃ p ys, xs = [.ref p] ∧ (SqL K H p ys ∨ SqT K H p ys) ∧ ∀ l, H l = none → Q (.ref l) (upd H l (.lst ys))) tr) (.lst ds) := (en_list h).ed
/-- in, not in: ints, texts -/
theorem flat_ints (ns : List Int) : (ns.map V.int).all flatV = true := by
  rw [List.all_map]
  exact List.all_eq_true.mpr fun _ _ => rfl
theorem inV_int (i : Int) (ns : List Int) : inV (.int i) (ns.map V.int) = decide (i ∈ ns) := by
  unfold inV
  rw [List.any_map, Bool.eq_iff_iff, List.any_eq_true, decide_eq_true_iff]
  constructor
  · rintro ⟨x, hx, e⟩
    have e' : (x == i) = true := e
    rw [← eq_of_beq e']; exact hx
  · intro h
    exact ⟨i, h, beq_self_eq_true i⟩
theorem inV_str (i : Str) (ns : List Str) : inV (.str i) (ns.map V.str) = decide (i ∈ ns) := by
  unfold inV
  rw [List.any_map, Bool.eq_iff_iff, List.any_eq_true, decide_eq_true_iff]
  constructor
  · rintro ⟨x, hx, e⟩
    have e' : (x == i) = true := e
    rw [← eq_of_beq e']; exact hx
  · intro h
    exact ⟨i, h, beq_self_eq_true i⟩
theorem ed_inI {i : Int} {ns : List Int} (ha : Ed K ow dn ta (.int i)) (hb : Ed K ow dn tb (.lst (ns.map .int))) : Ed K ow dn (tOp (rIn K false) ta tb) (.bl (decide (i ∈ ns))) := ed_op ha hb fun G H e v u r1 r2 Q q => by
  obtain ⟨a, us, rfl, hs, ra⟩ := r2.L
  rw [ra.ints] at hs
  rw [r1.i]
  refine ⟨a, _, rfl, .inl (e.seq hs), rfl, flat_ints ns, q _ H (Same.refl H) ?_⟩
  rw [inV_int]
  exact .bl _
theorem ed_niI {i : Int} {ns : List Int} (ha : Ed K ow dn ta (.int i)) (hb : Ed K ow dn tb (.lst (ns.map .int))) : Ed K ow dn (tOp (rIn K true) ta tb) (.bl (!decide (i ∈ ns))) := ed_op ha hb fun G H e v u r1 r2 Q q => by
  obtain ⟨a, us, rfl, hs, ra⟩ := r2.L
  rw [ra.ints] at hs
  rw [r1.i]
  refine ⟨a, _, rfl, .inl (e.seq hs), rfl, flat_ints ns, q _ H (Same.refl H) ?_⟩
  rw [inV_int]
  exact .bl _
end
/-! ### == of lists of ints -/
theorem fl_ints : ∀ ns : List Int, flA (ns.map .int) = true
  | [] => rfl
  | n :: ns => by
    show (true && flA (ns.map .int)) = true
    rw [fl_ints ns]; rfl
theorem toPs_ints : ∀ ns : List Int, toPs (ns.map .int) = ns.map PyData.int
  | [] => rfl
  | n :: ns => by
    show PyData.int n :: toPs (ns.map .int) = _
    rw [toPs_ints ns]; rfl
theorem lay_ints : ∀ ns : List Int, PyData.canLayAll0 (ns.map PyData.int) = true ∧ PyData.depthAll (ns.map PyData.int) = 0
  | [] => ⟨rfl, rfl⟩
  | n :: ns => by
    obtain ⟨h1, h2⟩ := lay_ints ns
    refine ⟨?_, ?_⟩
    · show (true && PyData.canLayAll0 (ns.map PyData.int)) = true
      rw [h1]; rfl
    · show max 0 (PyData.depthAll (ns.map PyData.int)) = 0
      rw [h2]; rfl
theorem shaped_ints (ns : List Int) : SeqAt.shaped (toP (.lst (ns.map .int))) = true := by
  show (PyData.canLayAll0 (toPs (ns.map .int)) && decide (PyData.depthAll (toPs (ns.map .int)) + 1 ≤ 64)) = true
  rw [toPs_ints, (lay_ints ns).1, (lay_ints ns).2]
  rfl
theorem eqv_ints : ∀ ns ms : List Int, PyData.eqvAll (ns.map PyData.int) (ms.map PyData.int) = decide (ns = ms)
  | [], [] => rfl
  | [], _ :: _ => rfl
  | _ :: _, [] => rfl
  | n :: ns, m :: ms => by
    show ((n == m) && PyData.eqvAll (ns.map PyData.int) (ms.map PyData.int)) = _
    rw [eqv_ints ns ms, Bool.eq_iff_iff]
    simp
section
variable {K : PySem.W.Frag} {ow : Ow} {dn : Dn} {ta tb : TE} {ns ms : List Int}
theorem eqv_lints : PyData.eqv (toP (.lst (ns.map .int))) (toP (.lst (ms.map .int))) = decide (ns = ms) := by
  show PyData.eqvAll (toPs (ns.map .int)) (toPs (ms.map .int)) = _
  rw [toPs_ints, toPs_ints, eqv_ints]
theorem ed_eqLI (ha : Ed K ow dn ta (.lst (ns.map .int))) (hb : Ed K ow dn tb (.lst (ms.map .int))) : Ed K ow dn (tOp (rEqD K) ta tb) (.bl (decide (ns = ms))) :=
  ed_is (ed_eqD ha hb (fl_ints ns) (fl_ints ms) (shaped_ints ns) (shaped_ints ms)) (by rw [eqv_lints])
theorem ed_neLI (ha : Ed K ow dn ta (.lst (ns.map .int))) (hb : Ed K ow dn tb (.lst (ms.map .int))) : Ed K ow dn (tOp (rNeD K) ta tb) (.bl (!decide (ns = ms))) :=
  ed_is (ed_neD ha hb (fl_ints ns) (fl_ints ms) (shaped_ints ns) (shaped_ints ms)) (by rw [eqv_lints])
end
end BW

set_option Elab.async false
set_option linter.all false
set_option maxRecDepth 100000
set_option maxHeartbeats 4000000
/-! BM1: what the first defs compute, in plain Lean. -/
namespace BW
open PySem L2 PySem.Spec

abbrev Sr := Option (Int × Int)
/-- a stretch or None, as a datum -/
def dS : Sr → Dt
  | none => .non
  | some p => .tup [.int p.1, .int p.2]
theorem dS_fl (s : Sr) : (dS s).fl = true := by cases s <;> rfl
theorem dS_isN (s : Sr) : (dS s).isN = s.isNone := by cases s <;> rfl

/-! ### the law's stream of numbers -/
def sqF (c : Int) : Nat → Int
  | 0 => c % 2147483647 + 48271
  | k + 1 => (sqF c k * sqF c k + 48271 * sqF c k + (k : Int)) % 2147483647
theorem sqF_lt (c : Int) (k : Nat) : 0 ≤ sqF c k ∧ sqF c k < 4294967296 := by
  cases k with
  | zero => unfold sqF; omega
  | succ k => unfold sqF; omega
def stF (c : Int) (m : Nat) : List Int := (List.range m).map fun k => sqF c (k + 2)
def runF (c : Int) (m : Nat) : List Int := (List.range m).map fun k => sqF c (k + 1)
theorem runF_succ (c : Int) (m : Nat) : runF c (m + 1) = runF c m ++ [sqF c (m + 1)] := by
  unfold runF
  rw [List.range_succ, List.map_append]
  rfl
theorem runF_len (c : Int) (m : Nat) : (runF c m).length = m := by unfold runF; simp
theorem stF_len (c : Int) (m : Nat) : (stF c m).length = m := by unfold stF; simp
theorem run_cut (c : Int) (m : Nat) : cutD ((runF c (m + 1)).map Dt.int) (some 1) none = (stF c m).map Dt.int := by
  unfold cutD
  have h1 : HT.sIx ((runF c (m + 1)).map Dt.int).length 0 (some 1) = 1 := by
    rw [show HT.sIx ((runF c (m + 1)).map Dt.int).length 0 (some 1) = min 1 ((runF c (m + 1)).map Dt.int).length from HT.sIx_nat _ 0 1]
    rw [List.length_map, runF_len]
    omega
  rw [h1, HT.sIx_none, List.length_map, runF_len]
  have h2 : runF c (m + 1) = sqF c 1 :: stF c m := by
    unfold runF stF
    rw [List.range_succ_eq_map, List.map_cons, List.map_map]
    rfl
  rw [h2]
  show ((stF c m).map Dt.int).take (m + 1 - 1) = _
  rw [show m + 1 - 1 = m from rfl]
  exact List.take_of_length_le (by rw [List.length_map, stF_len]; exact Nat.le_refl _)
theorem st3 (c : Int) : ∃ x y z, stF c 3 = [x, y, z] := ⟨_, _, _, rfl⟩
theorem st4 (c : Int) : ∃ x y z u, stF c 4 = [x, y, z, u] := ⟨_, _, _, _, rfl⟩
abbrev R_stream (ds : List Dt) (d : Dt) : Prop := ∃ c m : Int, ds = [.int c, .int m] ∧ (0 ≤ m ∧ m ≤ 1000) ∧ d = .lst ((stF c m.toNat).map .int)
/-- a cell of the script -/
abbrev cellF (ns : List Int) (k : Int) : Int := if k < ns.length then ns.getD k.toNat 0 else 0
abbrev R_cell (ds : List Dt) (d : Dt) : Prop := ∃ (ns : List Int) (k : Int), ds = [.lst (ns.map .int), .int k] ∧ 0 ≤ k ∧ d = .int (cellF ns k)
/-- a number of the range -/
def numF (x : Int) : Int := if x % 8 < 4 then x / 8 % 27 - 6 else
  sel3 (min 2 (x % 8 - 4)) (x / 8 % 2000001 - 1000000) (sel4 (x / 8 % 4) 1000000 (-1000000) 999999 (-999999)) (x / 8 % 2001 - 1000)
theorem numF_lt (x : Int) : -1000000 ≤ numF x ∧ numF x ≤ 1000000 := by
  unfold numF sel3 sel4
  split
  · omega
  · repeat' split
    all_goals omega
abbrev R_number (ds : List Dt) (d : Dt) : Prop := ∃ x : Int, ds = [.int x] ∧ d = .int (numF x)
/-- a stretch -/
def strF (x y : Int) : Int × Int := (numF x, min 1000000 (numF x + sel4 (y % 4) 0 (y / 4 % 9) (y / 4 % 3000) (y / 4 % 2000001)))
theorem strF_lt (x y : Int) : -1000000 ≤ (strF x y).1 ∧ (strF x y).1 ≤ (strF x y).2 ∧ (strF x y).2 ≤ 1000000 := by
  have h := numF_lt x
  have h2 : 0 ≤ sel4 (y % 4) 0 (y / 4 % 9) (y / 4 % 3000) (y / 4 % 2000001) := by
    unfold sel4
    repeat' split
    all_goals omega
  unfold strF
  show -1000000 ≤ numF x ∧ numF x ≤ min 1000000 (numF x + _) ∧ min 1000000 (numF x + _) ≤ 1000000
  omega
abbrev R_stretch (ds : List Dt) (d : Dt) : Prop := ∃ x y : Int, ds = [.int x, .int y] ∧ d = dS (some (strF x y))
/-! ### what is asked of an answer -/
def Dt.whole : Dt → Bool
  | .int _ => true
  | _ => false
def Dt.isS : Dt → Bool
  | .tup [a, b] => a.whole && b.whole
  | _ => false
abbrev R_whole (ds : List Dt) (d : Dt) : Prop := ∃ x, ds = [x] ∧ x.pl = true ∧ d = .bl x.whole
/-- of what is made here -/
abbrev R_is (ds : List Dt) (d : Dt) : Prop := ∃ x : Sr, ds = [dS x] ∧ d = .bl x.isSome
abbrev R_alike (ds : List Dt) (d : Dt) : Prop := ∃ x y : Sr, ds = [dS x, dS y] ∧ d = .bl (decide (x = y))
/-! ### the stretches' defs -/
def joinF : Sr → Sr → Sr
  | none, b => b
  | a, none => a
  | some a, some b => some (min a.1 b.1, max a.2 b.2)
def metF : Sr → Sr → Sr
  | some a, some b => if max a.1 b.1 > min a.2 b.2 then none else some (max a.1 b.1, min a.2 b.2)
  | _, _ => none
abbrev R_joined (ds : List Dt) (d : Dt) : Prop := ∃ x y : Sr, ds = [dS x, dS y] ∧ d = dS (joinF x y)
abbrev R_met (ds : List Dt) (d : Dt) : Prop := ∃ x y : Sr, ds = [dS x, dS y] ∧ d = dS (metF x y)
def hasF : Sr → Int → Bool
  | none, _ => false
  | some a, n => decide (a.1 ≤ n) && decide (n ≤ a.2)
abbrev R_has (ds : List Dt) (d : Dt) : Prop := ∃ (x : Sr) (n : Int), ds = [dS x, .int n] ∧ d = .bl (hasF x n)
theorem eqv_S (x y : Int × Int) : PyData.eqv (toP (dS (some x))) (toP (dS (some y))) = decide (some x = some y) := by
  show ((x.1 == y.1) && ((x.2 == y.2) && true)) = _
  rw [Bool.and_true, Bool.eq_iff_iff]
  simp [Prod.ext_iff]
end BW
namespace BW
open PySem L2 PySem.Spec
/-! ### k01: the pair -/
def xsF (ns : List Int) (k : Int) (m j : Nat) : Int := (stF (cellF ns k) m).getD j 0
def pairF (ns : List Int) : Sr × Sr :=
  let one := strF (xsF ns 0 4 0) (xsF ns 0 4 1)
  let low := sel3 (xsF ns 1 4 2 / 3 % 3) one.1 one.2 (min 1000000 (one.2 + 1))
  (if xsF ns 0 4 2 % 9 = 0 then none else some one, if xsF ns 0 4 3 % 9 = 0 then none else
    some (if xsF ns 1 4 2 % 3 = 0 then (low, min 1000000 (low + xsF ns 1 4 3 % 9)) else strF (xsF ns 1 4 0) (xsF ns 1 4 1)))
theorem xs_map (ns : List Int) (k : Int) (m : Nat) : (stF (cellF ns k) m).map Dt.int = (List.range m).map fun j => Dt.int (xsF ns k m j) := by
  apply List.ext_getElem?
  intro i
  rw [List.getElem?_map, List.getElem?_map]
  unfold xsF
  by_cases h : i < m
  · have h2 : i < (stF (cellF ns k) m).length := by rw [stF_len]; exact h
    rw [List.getElem?_eq_getElem h2, List.getElem?_eq_getElem (by simpa using h)]
    simp [h2]
  · rw [List.getElem?_eq_none (by rw [stF_len]; omega), List.getElem?_eq_none (by simpa using h)]
    rfl
abbrev R_pair (ds : List Dt) (d : Dt) : Prop := ∃ ns : List Int, ds = [.lst (ns.map .int)] ∧ d = .lst [dS (pairF ns).1, dS (pairF ns).2]
abbrev R_law (ds : List Dt) (d : Dt) : Prop := ∃ ns : List Int, ds = [.lst (ns.map .int)] ∧ ns.length ≤ 63 ∧ d = .bl true
end BW
namespace BW
theorem has_met (a b : Sr) (n : Int) : hasF (metF a b) n = (hasF a n && hasF b n) := by
  rcases a with _ | a
  · cases b <;> rfl
  rcases b with _ | b
  · simp [metF, hasF]
  show hasF (if max a.1 b.1 > min a.2 b.2 then none else some (max a.1 b.1, min a.2 b.2)) n = _
  split
  · rename_i h
    show false = (_ && _)
    rw [eq_comm, Bool.eq_false_iff]
    intro q
    simp only [hasF, Bool.and_eq_true, decide_eq_true_eq] at q
    omega
  · rename_i h
    simp only [hasF]
    rw [Bool.eq_iff_iff]
    simp only [Bool.and_eq_true, decide_eq_true_eq]
    omega
theorem has_join (a b : Sr) (n : Int) : (hasF (joinF a b) n || (!hasF a n && !hasF b n)) = true := by
  rcases a with _ | a
  · rcases b with _ | b
    · rfl
    · simp only [joinF, hasF]
      cases decide (b.1 ≤ n) <;> cases decide (n ≤ b.2) <;> rfl
  rcases b with _ | b
  · simp only [joinF, hasF]
    cases decide (a.1 ≤ n) <;> cases decide (n ≤ a.2) <;> rfl
  simp only [joinF, hasF]
  simp only [Bool.or_eq_true, Bool.and_eq_true, Bool.not_eq_true', decide_eq_true_eq, Bool.and_eq_false_iff, decide_eq_false_iff_not]
  omega
end BW

set_option Elab.async false
set_option linter.all false
set_option maxRecDepth 100000
set_option maxHeartbeats 4000000
/-! BM2: sums, differences, products, rests. -/
namespace BW
open PySem L2 PySem.Spec
abbrev Big : Int := 1000000
def cutF (lo hi : Int) : Sr := if lo > 1000000 ∨ hi < -1000000 then none else some (max lo (-1000000), min hi 1000000)
abbrev R_cut (ds : List Dt) (d : Dt) : Prop := ∃ a b : Int, ds = [.int a, .int b] ∧ d = dS (cutF a b)
def plusF (a b : Int × Int) : Sr := cutF (a.1 + b.1) (a.2 + b.2)
def minusF (a b : Int × Int) : Sr := cutF (a.1 - b.2) (a.2 - b.1)
abbrev R_plus (ds : List Dt) (d : Dt) : Prop := ∃ a b : Int × Int, ds = [dS (some a), dS (some b)] ∧ d = dS (plusF a b)
abbrev R_minus (ds : List Dt) (d : Dt) : Prop := ∃ a b : Int × Int, ds = [dS (some a), dS (some b)] ∧ d = dS (minusF a b)
def oneF (p : Int × Int) (x : Int) : Int := if x % 4 < 2 then sel2 (x % 4) p.1 p.2 else p.1 + x / 4 % (p.2 - p.1 + 1)
theorem oneF_in {p : Int × Int} (h : p.1 ≤ p.2) (x : Int) : p.1 ≤ oneF p x ∧ oneF p x ≤ p.2 := by
  unfold oneF sel2
  split
  · split <;> omega
  · have h1 := Int.emod_nonneg (x / 4) (show p.2 - p.1 + 1 ≠ 0 by omega)
    have h2 := Int.emod_lt_of_pos (x / 4) (show 0 < p.2 - p.1 + 1 by omega)
    omega
abbrev R_one_of (ds : List Dt) (d : Dt) : Prop := ∃ (p : Int × Int) (x : Int), ds = [dS (some p), .int x] ∧ p.1 ≤ p.2 ∧ d = .int (oneF p x)
/-- a stretch near a limit -/
def edgeF (one : Int × Int) (z0 z1 z2 : Int) : Int :=
  max (-1000000) (min 1000000 (if z0 % 3 = 1 then sel2 (z1 / 2 % 2) one.1 one.2 - sel2 (z1 % 2) 1000000 (-1000000) + z2 % 3 - 1
    else sel2 (z1 % 2) 1000000 (-1000000) - sel2 (z1 / 2 % 2) one.1 one.2 + z2 % 3 - 1))
def nearF (one other : Int × Int) (z0 z1 z2 : Int) : Int × Int := if z0 % 3 = 0 then other else
  sel2 (z1 / 12 % 2) (edgeF one z0 z1 z2, min 1000000 (edgeF one z0 z1 z2 + sel3 (z1 / 4 % 3) 0 1 (z2 / 3 % 3000)))
    (max (-1000000) (edgeF one z0 z1 z2 - sel3 (z1 / 4 % 3) 0 1 (z2 / 3 % 3000)), edgeF one z0 z1 z2)
theorem nearF_lt {one other : Int × Int} (h : other.1 ≤ other.2) (z0 z1 z2 : Int) : (nearF one other z0 z1 z2).1 ≤ (nearF one other z0 z1 z2).2 := by
  have h2 : 0 ≤ sel3 (z1 / 4 % 3) 0 1 (z2 / 3 % 3000) := by
    unfold sel3
    repeat' split
    all_goals omega
  have h3 : -1000000 ≤ edgeF one z0 z1 z2 ∧ edgeF one z0 z1 z2 ≤ 1000000 := by unfold edgeF; omega
  unfold nearF
  split
  · exact h
  · generalize edgeF one z0 z1 z2 = e at *
    generalize sel3 (z1 / 4 % 3) 0 1 (z2 / 3 % 3000) = s at *
    unfold sel2
    split
    · show e ≤ min 1000000 (e + s); omega
    · show max (-1000000) (e - s) ≤ e; omega
abbrev R_near (ds : List Dt) (d : Dt) : Prop := ∃ (a b : Int × Int) (z0 z1 z2 : Int), ds = [dS (some a), dS (some b), .lst [.int z0, .int z1, .int z2]] ∧ d = dS (some (nearF a b z0 z1 z2))
/-- whether a number lies there, where it is none beyond -/
def hasL (s : Sr) (n : Int) : Bool := (decide (n < -1000000) || decide (n > 1000000)) || hasF s n
abbrev R_hasL (ds : List Dt) (d : Dt) : Prop := ∃ (x : Sr) (n : Int), ds = [dS x, .int n] ∧ d = .bl (hasL x n)
theorem has_cut {lo hi n : Int} (h1 : lo ≤ n) (h2 : n ≤ hi) : hasL (cutF lo hi) n = true := by
  unfold hasL
  by_cases h3 : n < -1000000 ∨ n > 1000000
  · simp only [Bool.or_eq_true, decide_eq_true_eq]
    exact .inl h3
  · simp only [Bool.or_eq_true, decide_eq_true_eq]
    refine .inr ?_
    unfold cutF
    rw [if_neg (by omega)]
    simp only [hasF, Bool.and_eq_true, decide_eq_true_eq]
    omega
theorem has_plus {a b : Int × Int} {x y : Int} (h1 : a.1 ≤ x) (h2 : x ≤ a.2) (h3 : b.1 ≤ y) (h4 : y ≤ b.2) : hasL (plusF a b) (x + y) = true := has_cut (by omega) (by omega)
theorem has_minus {a b : Int × Int} {x y : Int} (h1 : a.1 ≤ x) (h2 : x ≤ a.2) (h3 : b.1 ≤ y) (h4 : y ≤ b.2) : hasL (minusF a b) (x - y) = true := has_cut (by omega) (by omega)

/-! ### products and rests -/
def Rng (p : Int × Int) : Prop := -1000000 ≤ p.1 ∧ p.1 ≤ p.2 ∧ p.2 ≤ 1000000
def minL (x : Int) : List Int → Int
  | [] => x
  | y :: r => minL (min x y) r
def maxL (x : Int) : List Int → Int
  | [] => x
  | y :: r => maxL (max x y) r
theorem minL_le : ∀ (r : List Int) (x : Int), minL x r ≤ x ∧ (∀ y ∈ r, minL x r ≤ y) ∧ (minL x r = x ∨ minL x r ∈ r)
  | [], x => ⟨Int.le_refl _, fun _ h => (List.not_mem_nil h).elim, .inl rfl⟩
  | y :: r, x => by
    obtain ⟨h1, h2, h3⟩ := minL_le r (min x y)
    show minL (min x y) r ≤ x ∧ (∀ z ∈ y :: r, minL (min x y) r ≤ z) ∧ (minL (min x y) r = x ∨ minL (min x y) r ∈ y :: r)
    refine ⟨by omega, fun z hz => ?_, ?_⟩
    · rcases List.mem_cons.mp hz with e | e
      · subst e; omega
      · exact h2 z e
    · rcases h3 with e | e
      · rw [e]
        by_cases k : x ≤ y
        · exact .inl (by omega)
        · exact .inr (List.mem_cons.mpr (.inl (by omega)))
      · exact .inr (List.mem_cons.mpr (.inr e))
theorem maxL_le : ∀ (r : List Int) (x : Int), x ≤ maxL x r ∧ (∀ y ∈ r, y ≤ maxL x r) ∧ (maxL x r = x ∨ maxL x r ∈ r)
  | [], x => ⟨Int.le_refl _, fun _ h => (List.not_mem_nil h).elim, .inl rfl⟩
  | y :: r, x => by
    obtain ⟨h1, h2, h3⟩ := maxL_le r (max x y)
    show x ≤ maxL (max x y) r ∧ (∀ z ∈ y :: r, z ≤ maxL (max x y) r) ∧ (maxL (max x y) r = x ∨ maxL (max x y) r ∈ y :: r)
    refine ⟨by omega, fun z hz => ?_, ?_⟩
    · rcases List.mem_cons.mp hz with e | e
      · subst e; omega
      · exact h2 z e
    · rcases h3 with e | e
      · rw [e]
        by_cases k : y ≤ x
        · exact .inl (by omega)
        · exact .inr (List.mem_cons.mpr (.inl (by omega)))
      · exact .inr (List.mem_cons.mpr (.inr e))
section
variable {K : PySem.W.Frag} {ow : Ow} {dn : Dn} {tr : TA}
theorem ed_minL {x : Int} {r : List Int} (h : Ea K ow dn tr [.lst ((x :: r).map .int)]) : Ed K ow dn (tCB (rMin K) tr) (.int (minL x r)) := ed_cb h fun G H e vs r' Q q => by
  obtain ⟨v, rfl, r1⟩ := r'.one
  obtain ⟨a, us, rfl, hs, ra⟩ := r1.L
  rw [ra.ints] at hs
  refine ⟨a, x :: r, rfl, e.seq hs, by simp, fun m hm hle => ?_⟩
  obtain ⟨h1, h2, h3⟩ := minL_le r x
  have k1 : m ≤ minL x r := by
    rcases h3 with k | k
    · rw [k]; exact hle x (by simp)
    · exact hle _ (by simp [k])
  have k2 : minL x r ≤ m := by
    rcases List.mem_cons.mp hm with k | k
    · rw [k]; exact h1
    · exact h2 m k
  have : m = minL x r := by omega
  subst this
  exact q _ H (Same.refl H) (.int _)
theorem ed_maxL {x : Int} {r : List Int} (h : Ea K ow dn tr [.lst ((x :: r).map .int)]) : Ed K ow dn (tCB (rMax K) tr) (.int (maxL x r)) := ed_cb h fun G H e vs r' Q q => by
  obtain ⟨v, rfl, r1⟩ := r'.one
  obtain ⟨a, us, rfl, hs, ra⟩ := r1.L
  rw [ra.ints] at hs
  refine ⟨a, x :: r, rfl, e.seq hs, by simp, fun m hm hle => ?_⟩
  obtain ⟨h1, h2, h3⟩ := maxL_le r x
  have k1 : maxL x r ≤ m := by
    rcases h3 with k | k
    · rw [k]; exact hle x (by simp)
    · exact hle _ (by simp [k])
  have k2 : m ≤ maxL x r := by
    rcases List.mem_cons.mp hm with k | k
    · rw [k]; exact h1
    · exact h2 m k
  have : m = maxL x r := by omega
  subst this
  exact q _ H (Same.refl H) (.int _)
end
def loF (a b : Int × Int) : Int := minL (a.1 * b.1) [a.1 * b.2, a.2 * b.1, a.2 * b.2]
def hiF (a b : Int × Int) : Int := maxL (a.1 * b.1) [a.1 * b.2, a.2 * b.1, a.2 * b.2]
def timesF (a b : Int × Int) : Sr := cutF (loF a b) (hiF a b)
abbrev R_times (ds : List Dt) (d : Dt) : Prop := ∃ a b : Int × Int, ds = [dS (some a), dS (some b)] ∧ Rng a ∧ Rng b ∧ d = dS (timesF a b)
abbrev R_products (ds : List Dt) (d : Dt) : Prop := ∃ a b : Int × Int, ds = [dS (some a), dS (some b)] ∧ Rng a ∧ Rng b ∧ d = dS (timesF a b)
def restF (a : Int × Int) (by' : Int) : Int × Int := if a.1 / by' = a.2 / by' then (a.1 % by', a.2 % by') else (0, by' - 1)
abbrev R_rest (ds : List Dt) (d : Dt) : Prop := ∃ (a : Int × Int) (n : Int), ds = [dS (some a), .int n] ∧ 0 < n ∧ n ≤ 1000000 ∧ d = dS (some (restF a n))
/-- a product lies between the products of ends -/
theorem mul_between {a1 a2 x y : Int} (h1 : a1 ≤ x) (h2 : x ≤ a2) : min (a1 * y) (a2 * y) ≤ x * y ∧ x * y ≤ max (a1 * y) (a2 * y) := by
  rcases Int.le_total 0 y with h | h
  · have k1 := Int.mul_le_mul_of_nonneg_right h1 h
    have k2 := Int.mul_le_mul_of_nonneg_right h2 h
    omega
  · have k1 := Int.mul_le_mul_of_nonpos_right h1 h
    have k2 := Int.mul_le_mul_of_nonpos_right h2 h
    omega
theorem mul_in {a b : Int × Int} {x y : Int} (h1 : a.1 ≤ x) (h2 : x ≤ a.2) (h3 : b.1 ≤ y) (h4 : y ≤ b.2) : loF a b ≤ x * y ∧ x * y ≤ hiF a b := by
  have k := mul_between (y := y) h1 h2
  have k1 := mul_between (y := a.1) h3 h4
  have k2 := mul_between (y := a.2) h3 h4
  rw [Int.mul_comm b.1 a.1, Int.mul_comm b.2 a.1, Int.mul_comm y a.1] at k1
  rw [Int.mul_comm b.1 a.2, Int.mul_comm b.2 a.2, Int.mul_comm y a.2] at k2
  unfold loF hiF
  show min (min (min (a.1 * b.1) (a.1 * b.2)) (a.2 * b.1)) (a.2 * b.2) ≤ _ ∧ _ ≤ max (max (max (a.1 * b.1) (a.1 * b.2)) (a.2 * b.1)) (a.2 * b.2)
  omega
theorem has_times {a b : Int × Int} {x y : Int} (h1 : a.1 ≤ x) (h2 : x ≤ a.2) (h3 : b.1 ≤ y) (h4 : y ≤ b.2) : hasL (timesF a b) (x * y) = true := has_cut (mul_in h1 h2 h3 h4).1 (mul_in h1 h2 h3 h4).2
theorem rest_in {a : Int × Int} {x n : Int} (hn : 0 < n) (h1 : a.1 ≤ x) (h2 : x ≤ a.2) : (restF a n).1 ≤ x - x / n * n ∧ x - x / n * n ≤ (restF a n).2 := by
  have e : ∀ z : Int, z - z / n * n = z % n := fun z => by rw [Int.emod_def, Int.mul_comm]
  rw [e]
  unfold restF
  split
  · rename_i h
    have k1 := Int.ediv_le_ediv hn h1
    have k2 := Int.ediv_le_ediv hn h2
    have q1 : x / n = a.1 / n := by omega
    rw [Int.emod_def, Int.emod_def, Int.emod_def, q1, ← h]
    show a.1 - _ ≤ _ ∧ _ ≤ a.2 - _
    omega
  · have k1 := Int.emod_nonneg x (show n ≠ 0 by omega)
    have k2 := Int.emod_lt_of_pos x hn
    show (0 : Int) ≤ _ ∧ _ ≤ n - 1
    omega
end BW

set_option Elab.async false
set_option linter.all false
set_option maxRecDepth 100000
set_option maxHeartbeats 4000000
/-! BM3: rounded by marks. -/
namespace BW
open PySem L2 PySem.Spec
def stepR (a p : Int × Int) (m : Int) : Int × Int := (if p.1 ≤ m ∧ m ≤ a.1 then m else p.1, if a.2 ≤ m ∧ m ≤ p.2 then m else p.2)
def roundF (a : Int × Int) (ms : List Int) : Int × Int := ms.foldl (stepR a) (-1000000, 1000000)
theorem roundF_snoc (a : Int × Int) (ms : List Int) (m : Int) : roundF a (ms ++ [m]) = stepR a (roundF a ms) m := by
  unfold roundF
  rw [List.foldl_append]
  rfl
abbrev R_rounded (ds : List Dt) (d : Dt) : Prop := ∃ (a : Int × Int) (ms : List Int), ds = [dS (some a), .lst (ms.map .int)] ∧ d = dS (some (roundF a ms))
structure RoundOk (a p : Int × Int) (ms : List Int) : Prop where
  l1 : p.1 ≤ a.1
  l2 : p.1 = -1000000 ∨ p.1 ∈ ms
  l3 : ∀ m ∈ ms, m ≤ a.1 → m ≤ p.1
  h1 : a.2 ≤ p.2
  h2 : p.2 = 1000000 ∨ p.2 ∈ ms
  h3 : ∀ m ∈ ms, a.2 ≤ m → p.2 ≤ m
theorem round_go (a : Int × Int) : ∀ (ms : List Int) (p : Int × Int) (pre : List Int), RoundOk a p pre → RoundOk a (ms.foldl (stepR a) p) (pre ++ ms)
  | [], p, pre, h => by rw [List.append_nil]; exact h
  | m :: ms, p, pre, h => by
    rw [List.foldl_cons, show pre ++ m :: ms = (pre ++ [m]) ++ ms by simp]
    refine round_go a ms _ _ ⟨?_, ?_, fun z hz hl => ?_, ?_, ?_, fun z hz hl => ?_⟩
    · unfold stepR; show (if _ then m else p.1) ≤ _; have := h.l1; split <;> omega
    · show (if p.1 ≤ m ∧ m ≤ a.1 then m else p.1) = _ ∨ (if p.1 ≤ m ∧ m ≤ a.1 then m else p.1) ∈ _
      split
      · exact .inr (by simp)
      · rcases h.l2 with e | e
        · exact .inl e
        · exact .inr (by simp [e])
    · show z ≤ (if p.1 ≤ m ∧ m ≤ a.1 then m else p.1)
      rcases List.mem_append.mp hz with e | e
      · have := h.l3 z e hl; split <;> omega
      · have e : z = m := by simpa using e
        split <;> omega
    · show _ ≤ (if a.2 ≤ m ∧ m ≤ p.2 then m else p.2); have := h.h1; split <;> omega
    · show (if a.2 ≤ m ∧ m ≤ p.2 then m else p.2) = _ ∨ (if a.2 ≤ m ∧ m ≤ p.2 then m else p.2) ∈ _
      split
      · exact .inr (by simp)
      · rcases h.h2 with e | e
        · exact .inl e
        · exact .inr (by simp [e])
    · show (if a.2 ≤ m ∧ m ≤ p.2 then m else p.2) ≤ z
      rcases List.mem_append.mp hz with e | e
      · have := h.h3 z e hl; split <;> omega
      · have e : z = m := by simpa using e
        split <;> omega
theorem round_ok {a : Int × Int} (h : -1000000 ≤ a.1) (h2 : a.2 ≤ 1000000) (ms : List Int) : RoundOk a (roundF a ms) ms := by
  have := round_go a ms (-1000000, 1000000) [] ⟨h, .inl rfl, fun _ h => (List.not_mem_nil h).elim, h2, .inl rfl, fun _ h => (List.not_mem_nil h).elim⟩
  rw [List.nil_append] at this
  exact this
/-! ### the law's marks -/
theorem st2 (c : Int) : stF c 2 = [sqF c 2, sqF c 3] := rfl
def markF (ns : List Int) (a : Int × Int) (k : Int) : Int :=
  if k % 3 = 0 then sel2 (sqF (ns.getD k.toNat 0) 3 % 2) a.1 a.2 + sqF (ns.getD k.toNat 0) 3 / 2 % 3 - 1 else numF (sqF (ns.getD k.toNat 0) 2)
def rawF (ns : List Int) (a : Int × Int) : Nat → List Int
  | 0 => []
  | n + 1 => rawF ns a n ++ (if -1000000 ≤ markF ns a (2 + n) ∧ markF ns a (2 + n) ≤ 1000000 then [markF ns a (2 + n)] else [])
theorem rawF_len (ns : List Int) (a : Int × Int) : ∀ n, (rawF ns a n).length ≤ n
  | 0 => Nat.le_refl _
  | n + 1 => by
    have := rawF_len ns a n
    unfold rawF
    rw [List.length_append]
    split
    · rw [List.length_singleton]; omega
    · rw [List.length_nil]; omega
abbrev R_lmarks (ds : List Dt) (d : Dt) : Prop := ∃ (ns : List Int) (a : Int × Int), ds = [.lst (ns.map .int), dS (some a)] ∧ ns.length ≤ 63 ∧ d = .lst ((srtS (rawF ns a (ns.length - 2))).map .int)
end BW

set_option Elab.async false
set_option linter.all false
set_option maxRecDepth 100000
set_option maxHeartbeats 4000000

namespace BW
open PySem L2 PySem.Spec PyProof.Rows
def topS (i : Nat) : Stmt := PySem.Challenge.pw_boundwatch_k04_rounded_by_marks.main.body.getD i (.Pass ⟨0, 0, 0, 0⟩)
abbrev BLT : List Str := ["bool", "int", "isinstance", "len", "list", "min", "range", "set", "sorted", "tuple"]
local macro_rules | `(tactic| walk_at "sd") => `(tactic| first | omega | (refine And.intro ?_ ?_ <;> omega) | (refine Or.inl (And.intro ?_ ?_) <;> omega) | (refine Or.inr (And.intro ?_ ?_) <;> omega) | rfl | decide | assumption | (simp; done))
local macro_rules | `(tactic| walk_at "le") => `(tactic| repeat (first | exact Le.nil | exact Le.refl _ | refine Le.same ?_ | refine Le.skip ?_))

section
variable {P : Program} {w : World} {K : PySem.W.Frag} {mg : Str → Option Value} {base : Heap}
abbrev s_rounded : Stmt := topS 2
abbrev N_rounded : List Str := ["one", "marks", "low", "high", "mark"]
theorem sc_rounded : FnScope N_rounded ["one", "marks"] (defScope s_rounded) := ⟨rfl, rfl, rfl, by decide +kernel, rfl, by decide +kernel, by decide +kernel⟩
theorem ok_rounded {f : Addr} {fd : FuncData} (F : Df K mg "rounded" s_rounded ["one", "marks"] f fd) (g_LIMIT : ∃ t, mg "LIMIT" = some (.int 1000000 t)) : Cl P w K mg base 1 "rounded" ["one", "marks"] (SpR K R_rounded) := by
  refine F.cl (ok_R (k := 0) F.fn sc_rounded (by rintro _ _ ⟨a, ms, rfl, rfl⟩; rfl) (fun cdv A outer s H E hr => ⟨_, (pss_cons (ps_set (i := 2) sc_rounded.nd rfl (.inl rfl) (pe_un un_neg (pe_globI (by rfl) g_LIMIT)))
    (pss_cons (ps_set (i := 3) sc_rounded.nd rfl (.inl rfl) (pe_globI (by rfl) g_LIMIT))
    (pss_cons (ps_for PassesOwn.never rfl (pi_list (pv 1)) (pg_name (i := 4) sc_rounded.nd rfl (Or.inl rfl)) (pss_cut (ps_if0 (pt_chain op_le op_le (pv 2) (pv 4) (pe_ix ix_tup (pv 0) pe_int (fun _ _ => rfl))) (pss_one (ps_set (i := 2) sc_rounded.nd rfl (.inl rfl) (pv 4))))
    (pss_one (ps_if0 (pt_chain op_le op_le (pe_ix ix_tup (pv 0) pe_int (fun _ _ => rfl)) (pv 4) (pv 3)) (pss_one (ps_set (i := 3) sc_rounded.nd rfl (.inl rfl) (pv 4)))))))
    (pss_one (ps_ret (pe_tup (pa_cons (pv 2) (pa_cons (pv 3) pa_nil)))))))), fun G vs ds d Q hR gh rp q => ?_⟩))
  obtain ⟨a, ms, rfl, rfl⟩ := hR
  have w := w_start (K := K) (N := N_rounded) (n := 3) (dn := [some (dS (some a)), some (.lst (ms.map .int)), none, none, none]) gh rp rfl rfl
  refine s_set w (ed_neg ed_int) fun v1 H1 w1 => ?_
  refine s_set w1 ed_int fun v2 H2 w2 => ?_
  refine s_forL w2 (ed_var rfl) (fun i ow dn => ow = [] ∧ dn = [some (dS (some a)), some (.lst (ms.map .int)), some (.int (roundF a (ms.take i)).1), some (.int (roundF a (ms.take i)).2), none]) ⟨_, ⟨rfl, rfl⟩, Le.refl _⟩ (fun i d ow' dn' σ' B G' H' v hd p w' => ?_) (fun ow' dn' σ' G' H' p w' => ?_)
  · obtain ⟨rfl, rfl⟩ := p
    rw [List.getElem?_map] at hd
    obtain ⟨m, hm, rfl⟩ := Option.map_eq_some_iff.mp hd
    have et : ms.take (i + 1) = ms.take i ++ [m] := by rw [List.take_add_one, hm]; rfl
    generalize hp : roundF a (ms.take i) = p at *
    refine x_ifset w' (et_test (ed_chain (ed_var rfl) (ed_var rfl) (fun hb => (ed_ixT (ed_var rfl) ed_int rfl)) rv_le fun hb => rv_le)) (d0 := .int p.1) rfl (fun _ => (ed_var rfl)) fun σ4 G4 H4 w4 => ?_
    have e1 : (if (decide (p.1 ≤ m) && decide (m ≤ a.1)) = true then Dt.int m else Dt.int p.1) = Dt.int (stepR a p m).1 := by
      show _ = Dt.int (if _ then m else p.1)
      by_cases h : p.1 ≤ m ∧ m ≤ a.1
      · rw [if_pos h, if_pos (by simp [h])]
      · rw [if_neg h, if_neg (by simpa using h)]
    rw [e1] at w4
    have fin : ∀ x : Int, x = (stepR a p m).2 → ∀ (dn6 : Dn) (σ6 : L2.St) (G6 H6 : Hp), Le [some (dS (some a)), some (.lst (ms.map .int)), some (.int (stepR a p m).1), some (.int x), none] dn6 → Wd K ((fr0 G H).to B) [] dn6 G6 H6 σ6 → At K ((fr0 G H).to B) (fun ow dn => ow = [] ∧ dn = [some (dS (some a)), some (.lst (ms.map .int)), some (.int (roundF a (ms.take (i + 1))).1), some (.int (roundF a (ms.take (i + 1))).2), none]) σ6 H6 := fun x hx dn6 σ6 G6 H6 l w6 => by
      subst hx
      refine At.mk w6 ⟨rfl, ?_⟩ l
      rw [et, roundF_snoc, hp]
    refine x_if0 w4 (et_test (ed_chain (ed_ixT (ed_var rfl) ed_int rfl) (ed_var rfl) (fun hb => (ed_var rfl)) rv_le fun hb => rv_le)) (fun hb H5 w5 => ?_) (fun hb H5 w5 => ?_)
    · refine x_set w5 (ed_var rfl) fun v6 H6 w6 => ?_
      refine fin m ?_ _ _ _ _ (by walk_at "le") w6
      have h : a.2 ≤ m ∧ m ≤ p.2 := by simpa using hb
      show _ = (if _ then m else p.2)
      rw [if_pos h]
    · refine fin p.2 ?_ _ _ _ _ (by walk_at "le") w5
      have h : ¬ (a.2 ≤ m ∧ m ≤ p.2) := by simpa using hb
      show _ = (if _ then m else p.2)
      rw [if_neg h]
  · obtain ⟨rfl, rfl⟩ := p
    refine x_ret w' (ed_is (ed_tup (ea_cons (ed_var rfl) (ea_cons (ed_var rfl) ea_nil))) ?_) q
    rw [List.length_map, List.take_length]
    rfl
abbrev s_law_cell_at : Stmt := topS 4
abbrev N_law_cell_at : List Str := ["_law_script", "_law_k"]
theorem sc_law_cell_at : FnScope N_law_cell_at ["_law_script", "_law_k"] (defScope s_law_cell_at) := ⟨rfl, rfl, rfl, by decide +kernel, rfl, by decide +kernel, by decide +kernel⟩
theorem ok_law_cell_at {f : Addr} {fd : FuncData} (F : Df K mg "_law_cell_at" s_law_cell_at ["_law_script", "_law_k"] f fd) (B : Free mg BLT) : Cl P w K mg base 1 "_law_cell_at" ["_law_script", "_law_k"] (SpR K R_cell) := by
  refine F.cl (ok_R (k := 0) F.fn sc_law_cell_at (by rintro _ _ ⟨ns, k, rfl, hk, rfl⟩; rfl) (fun cdv A outer s H E hr => ⟨_, (pss_cons (ps_if0 (pt_cmpR op_lt (pv 1) (pe_callB call_len_seq (by rfl) (B "len" (by decide)) bt_len (pa_cons (pv 0) pa_nil)) (nomark _)) (pss_one (ps_ret (pe_ix ix_list (pv 0) (pv 1) (fun _ _ => rfl)))))
    (pss_one (ps_ret pe_int))), fun G vs ds d Q hR gh rp q => ?_⟩))
  obtain ⟨ns, k, rfl, hk, rfl⟩ := hR
  have w := w_start (K := K) (N := N_law_cell_at) (n := 0) (dn := [some (.lst (ns.map .int)), some (.int k)]) gh rp rfl rfl
  refine s_if0 w (et_test (ed_lt (ed_var rfl) (ed_lenL (ea_cons (ed_var rfl) ea_nil)))) (fun hb H1 w1 => ?_) (fun hb H1 w1 => ?_)
  · have hl : k < ns.length := by have := of_decide_eq_true hb; simpa using this
    exact x_ret w1 (ed_is (ed_ixL (ed_var rfl) (ed_var rfl) (at_ints ⟨hk, hl⟩)) (by unfold cellF; rw [if_pos hl])) q
  · have hl : ¬ k < ns.length := by have := of_decide_eq_false hb; simpa using this
    exact x_ret w1 (ed_is ed_int (by unfold cellF; rw [if_neg hl])) q
abbrev s_law_stream : Stmt := topS 5
abbrev N_law_stream : List Str := ["_law_cell", "_law_many", "_law_found", "_law_number_here", "_law_k"]
theorem sc_law_stream : FnScope N_law_stream ["_law_cell", "_law_many"] (defScope s_law_stream) := ⟨rfl, rfl, rfl, by decide +kernel, rfl, by decide +kernel, by decide +kernel⟩
theorem ok_law_stream {f : Addr} {fd : FuncData} (F : Df K mg "_law_stream" s_law_stream ["_law_cell", "_law_many"] f fd) (B : Free mg BLT) : Cl P w K mg base 1 "_law_stream" ["_law_cell", "_law_many"] (SpR K R_stream) := by
  refine F.cl (ok_R (k := 0) F.fn sc_law_stream (by rintro _ _ ⟨c, m, rfl, hm, rfl⟩; rfl) (fun cdv A outer s H E hr => ⟨_, (pss_cons (ps_set (i := 2) sc_law_stream.nd rfl (.inl rfl) (pe_lst pa_nil))
    (pss_cons (ps_set (i := 3) sc_law_stream.nd rfl (.inl rfl) (pe_op op_add (pe_op op_mod (pv 0) pe_int) pe_int))
    (pss_cons (ps_for PassesOwn.never rfl (pi_range1 (by rfl) (B "range" (by decide)) (pa_cons (pe_op op_add (pv 1) pe_int) pa_nil)) (pg_name (i := 4) sc_law_stream.nd rfl (Or.inl rfl)) (pss_cons (ps_set (i := 3) sc_law_stream.nd rfl (.inl rfl) (pe_op op_mod (pe_op op_add (pe_op op_add (pe_op op_mul (pv 3) (pv 3)) (pe_op op_mul pe_int (pv 3))) (pv 4)) pe_int))
    (pss_one (ps_expr (pe_bm PySem.F.plainAttrs_list PySem.F.slot_list_append PySem.F.type_list_append mt_append (pv 2) (pa_cons (pv 3) pa_nil))))))
    (pss_one (ps_ret (pe_slice sl_list (pv 2) (po_some pe_int) po_none)))))), fun G vs ds d Q hR gh rp q => ?_⟩))
  obtain ⟨c, m, rfl, hm, rfl⟩ := hR
  have w := w_start (K := K) (N := N_law_stream) (n := 3) (dn := [some (.int c), some (.int m), none, none, none]) gh rp rfl rfl
  refine s_own w (en_lst ea_nil (by decide)) fun a G1 H1 w1 => ?_
  refine s_set w1 (ed_add (ed_mod (ed_var rfl) ed_int (by walk_at "sd")) ed_int) fun v2 H2 w2 => ?_
  refine s_forR1 w2 (ea_cons (ed_add (ed_var rfl) ed_int) ea_nil) (by omega) (fun i ow dn => ow = [(a, .lst ((runF c i).map .int))] ∧ dn = [some (.int c), some (.int m), some (.adr a), some (.int (sqF c i)), none]) ⟨_, ⟨rfl, rfl⟩, Le.refl _⟩ (fun i ow' dn' σ' G' H' v hi p w' => ?_) (fun ow' dn' σ' G' H' p w' => ?_)
  · obtain ⟨rfl, rfl⟩ := p
    have hs := sqF_lt c i
    refine s_set w' (ed_is (ed_mod (ed_add (ed_add (ed_mul (ed_var rfl) (ed_var rfl) (by walk_at "sd")) (ed_mul ed_int (ed_var rfl) (by walk_at "sd"))) (ed_var rfl)) ed_int (by walk_at "sd")) (by rfl)) fun v4 H4 w4 => ?_
    refine x_app (j := 0) w4 rfl (ed_var rfl) (ed_var rfl) (by rw [List.length_map, runF_len]; omega) fun G5 H5 w5 => ?_
    refine At.mk (dn' := [some (.int c), some (.int m), some (.adr a), some (.int (sqF c (i + 1))), none]) w5 ⟨?_, rfl⟩ (by walk_at "le")
    rw [runF_succ, List.map_append]
    rfl
  · obtain ⟨rfl, rfl⟩ := p
    have w3 := w'.frozen (j := 0) (i := 2) rfl rfl (by simp [fr0])
    refine x_ret w3 (ed_is (ed_slL (ed_var rfl) (eo_some ed_int) eo_none) ?_) q
    rw [show (m + 1).toNat = m.toNat + 1 by omega]
    exact congrArg Dt.lst (run_cut c m.toNat)
abbrev s_law_number : Stmt := topS 6
abbrev N_law_number : List Str := ["_law_x", "_law_far"]
theorem sc_law_number : FnScope N_law_number ["_law_x"] (defScope s_law_number) := ⟨rfl, rfl, rfl, by decide +kernel, rfl, by decide +kernel, by decide +kernel⟩
theorem ok_law_number {f : Addr} {fd : FuncData} (F : Df K mg "_law_number" s_law_number ["_law_x"] f fd) (B : Free mg BLT) : Cl P w K mg base 1 "_law_number" ["_law_x"] (SpR K R_number) := by
  refine F.cl (ok_R (k := 0) F.fn sc_law_number (by rintro _ _ ⟨x, rfl, rfl⟩; rfl) (fun cdv A outer s H E hr => ⟨_, (pss_cons (ps_if0 (pt_cmpR op_lt (pe_op op_mod (pv 0) pe_int) pe_int (nomark _)) (pss_one (ps_ret (pe_op op_sub (pe_op op_mod (pe_op op_fdiv (pv 0) pe_int) pe_int) pe_int))))
    (pss_cons (ps_set (i := 1) sc_law_number.nd rfl (.inl rfl) (pe_lst (pa_cons (pe_op op_sub (pe_op op_mod (pe_op op_fdiv (pv 0) pe_int) pe_int) pe_int) (pa_cons (pe_ix ix_list (pe_lst (pa_cons pe_int (pa_cons (pe_un un_neg pe_int) (pa_cons pe_int (pa_cons (pe_un un_neg pe_int) pa_nil))))) (pe_op op_mod (pe_op op_fdiv (pv 0) pe_int) pe_int) (fun _ _ => rfl)) (pa_cons (pe_op op_sub (pe_op op_mod (pe_op op_fdiv (pv 0) pe_int) pe_int) pe_int) pa_nil)))))
    (pss_one (ps_ret (pe_ix ix_list (pv 1) (pe_callB (call_min2 rfl) (by rfl) (B "min" (by decide)) bt_min (pa_cons pe_int (pa_cons (pe_op op_sub (pe_op op_mod (pv 0) pe_int) pe_int) pa_nil))) (fun _ _ => rfl)))))), fun G vs ds d Q hR gh rp q => ?_⟩))
  obtain ⟨x, rfl, rfl⟩ := hR
  have w := w_start (K := K) (N := N_law_number) (n := 1) (dn := [some (.int x), none]) gh rp rfl rfl
  refine s_if0 w (et_test (ed_lt (ed_mod (ed_var rfl) ed_int (by walk_at "sd")) ed_int)) (fun hb H1 w1 => ?_) (fun hb H1 w1 => ?_)
  · exact x_ret w1 (ed_is (ed_sub (ed_mod (ed_div (ed_var rfl) ed_int (by walk_at "sd")) ed_int (by walk_at "sd")) ed_int) (by rw [numF, if_pos (of_decide_eq_true hb)])) q
  · have hb' := of_decide_eq_false hb
    refine s_set w1 (ed_lst (ea_cons (ed_sub (ed_mod (ed_div (ed_var rfl) ed_int (by walk_at "sd")) ed_int (by walk_at "sd")) ed_int) (ea_cons (ed_ixL (ed_lst (ea_cons ed_int (ea_cons (ed_neg ed_int) (ea_cons ed_int (ea_cons (ed_neg ed_int) ea_nil))))) (ed_mod (ed_div (ed_var rfl) ed_int (by walk_at "sd")) ed_int (by walk_at "sd")) (at4i (by walk_at "sd"))) (ea_cons (ed_sub (ed_mod (ed_div (ed_var rfl) ed_int (by walk_at "sd")) ed_int (by walk_at "sd")) ed_int) ea_nil)))) fun v2 H2 w2 => ?_
    exact x_ret w2 (ed_is (ed_ixL (ed_var rfl) (ed_min2 (ea_cons ed_int (ea_cons (ed_sub (ed_mod (ed_var rfl) ed_int (by walk_at "sd")) ed_int) ea_nil))) (at3i (by omega))) (by rw [numF, if_neg hb'])) q
abbrev s_law_whole : Stmt := topS 7
abbrev N_law_whole : List Str := ["_law_found"]
theorem sc_law_whole : FnScope N_law_whole ["_law_found"] (defScope s_law_whole) := ⟨rfl, rfl, rfl, by decide +kernel, rfl, by decide +kernel, by decide +kernel⟩
theorem ok_law_whole {f : Addr} {fd : FuncData} (F : Df K mg "_law_whole" s_law_whole ["_law_found"] f fd) (B : Free mg BLT) : Cl P w K mg base 1 "_law_whole" ["_law_found"] (SpR K R_whole) := by
  refine F.cl (ok_R (k := 0) F.fn sc_law_whole (by rintro _ _ ⟨x, rfl, hx, rfl⟩; rfl) (fun cdv A outer s H E hr => ⟨_, (pss_one (ps_ret (pe_and (pe_callB call_isi (by rfl) (B "isinstance" (by decide)) bt_isinstance (pa_cons (pv 0) (pa_cons (pe_ty (by rfl) (B "int" (by decide)) bt_int) pa_nil))) (pe_one (pe_not (pe_callB call_isi (by rfl) (B "isinstance" (by decide)) bt_isinstance (pa_cons (pv 0) (pa_cons (pe_ty (by rfl) (B "bool" (by decide)) bt_bool) pa_nil)))))))), fun G vs ds d Q hR gh rp q => ?_⟩))
  obtain ⟨x, rfl, hx, rfl⟩ := hR
  have w := w_start (K := K) (N := N_law_whole) (n := 0) (dn := [some (x)]) gh rp rfl rfl
  exact x_ret w (ed_is (ed_andV (ed_isi (ea_cons (ed_var rfl) (ea_cons ed_ty ea_nil)) (by walk_at "sd")) fun hb => (ed_notV (ed_isi (ea_cons (ed_var rfl) (ea_cons ed_ty ea_nil)) (by walk_at "sd")))) (by cases x <;> first | rfl | cases hx)) q
abbrev s_law_is_stretch : Stmt := topS 8
abbrev N_law_is_stretch : List Str := ["_law_found"]
theorem sc_law_is_stretch : FnScope N_law_is_stretch ["_law_found"] (defScope s_law_is_stretch) := ⟨rfl, rfl, rfl, by decide +kernel, rfl, by decide +kernel, by decide +kernel⟩
theorem ok_law_is_stretch {f : Addr} {fd : FuncData} (F : Df K mg "_law_is_stretch" s_law_is_stretch ["_law_found"] f fd) (B : Free mg BLT) (C_law_whole : Cl P w K mg base 1 "_law_whole" ["_law_found"] (SpR K R_whole)) : Cl P w K mg base 2 "_law_is_stretch" ["_law_found"] (SpR K R_is) := by
  refine F.cl (ok_R (k := 1) F.fn sc_law_is_stretch (by rintro _ _ ⟨x, rfl, rfl⟩; rfl) (fun cdv A outer s H E hr => ⟨_, (pss_cons (ps_if0 ((pw_or (pt_not (pt_val (pe_callB call_isi (by rfl) (B "isinstance" (by decide)) bt_isinstance (pa_cons (pv 0) (pa_cons (pe_ty (by rfl) (B "tuple" (by decide)) bt_tuple) pa_nil))))) (pw_or1 (pt_cmpR op_ne (pe_callB call_len_seq (by rfl) (B "len" (by decide)) bt_len (pa_cons (pv 0) pa_nil)) pe_int (nomark _))))).pt (pss_one (ps_ret pe_bl)))
    (pss_one (ps_ret (pe_and (pe_cl C_law_whole hr (by decide) (by rfl) (pa_cons (pe_ix ix_tup (pv 0) pe_int (fun _ _ => rfl)) pa_nil)) (pe_one (pe_cl C_law_whole hr (by decide) (by rfl) (pa_cons (pe_ix ix_tup (pv 0) pe_int (fun _ _ => rfl)) pa_nil))))))), fun G vs ds d Q hR gh rp q => ?_⟩))
  obtain ⟨x, rfl, rfl⟩ := hR
  have w := w_start (K := K) (N := N_law_is_stretch) (n := 0) (dn := [some (dS x)]) gh rp rfl rfl
  rcases x with _ | ⟨a, b⟩
  · refine s_if0T w (et_or (b := false) (et_not (et_B (ed_isi (ea_cons (ed_var rfl) (ea_cons ed_ty ea_nil)) rfl))) fun hb => absurd hb (by decide)) rfl fun H1 w1 => ?_
    exact x_ret w1 ed_bl q
  · refine s_if0F w (et_or (et_not (et_B (ed_isi (ea_cons (ed_var rfl) (ea_cons ed_ty ea_nil)) (by walk_at "sd")))) fun hb => (et_test (ed_ne (ed_lenT (ea_cons (ed_var rfl) ea_nil)) ed_int))) rfl fun H1 w1 => ?_
    exact x_ret w1 (ed_is (ed_andV (ed_call (ea_cons (ed_ixT (ed_var rfl) ed_int rfl) ea_nil) ⟨_, rfl, rfl, rfl⟩) fun hb => (ed_call (ea_cons (ed_ixT (ed_var rfl) ed_int rfl) ea_nil) ⟨_, rfl, rfl, rfl⟩)) (by rfl)) q
abbrev s_law_alike : Stmt := topS 9
abbrev N_law_alike : List Str := ["_law_found", "_law_due"]
theorem sc_law_alike : FnScope N_law_alike ["_law_found", "_law_due"] (defScope s_law_alike) := ⟨rfl, rfl, rfl, by decide +kernel, rfl, by decide +kernel, by decide +kernel⟩
theorem ok_law_alike {f : Addr} {fd : FuncData} (F : Df K mg "_law_alike" s_law_alike ["_law_found", "_law_due"] f fd) (C_law_is_stretch : Cl P w K mg base 2 "_law_is_stretch" ["_law_found"] (SpR K R_is)) : Cl P w K mg base 3 "_law_alike" ["_law_found", "_law_due"] (SpR K R_alike) := by
  refine F.cl (ok_R (k := 2) F.fn sc_law_alike (by rintro _ _ ⟨x, y, rfl, rfl⟩; rfl) (fun cdv A outer s H E hr => ⟨_, (pss_cons (ps_if0 (pt_cmpR op_isN (pv 1) pe_non (nomark _)) (pss_one (ps_ret (pe_cmpR op_isN (pv 0) pe_non (nomark _)))))
    (pss_one (ps_ret (pe_and (pe_cl C_law_is_stretch hr (by decide) (by rfl) (pa_cons (pv 0) pa_nil)) (pe_one (pe_cmpR (op_eqD hr.units) (pv 0) (pv 1) (nomark _))))))), fun G vs ds d Q hR gh rp q => ?_⟩))
  obtain ⟨x, y, rfl, rfl⟩ := hR
  have w := w_start (K := K) (N := N_law_alike) (n := 0) (dn := [some (dS x), some (dS y)]) gh rp rfl rfl
  rcases y with _ | b
  · refine s_if0T w (et_test (ed_isN (ed_var rfl) ed_non)) (by first | rfl | (cases y <;> rfl)) fun H1 w1 => ?_
    exact x_ret w1 (ed_is (ed_isN (ed_var rfl) ed_non) (by cases x <;> rfl)) q
  · refine s_if0F w (et_test (ed_isN (ed_var rfl) ed_non)) (by first | rfl | (cases y <;> rfl)) fun H1 w1 => ?_
    rcases x with _ | a
    · refine x_ret w1 (ed_is (ed_andV (a := false) (b := false) (ed_call (ea_cons (ed_var rfl) ea_nil) ⟨none, rfl, rfl⟩) fun hb => absurd hb (by decide)) ?_) q
      rw [decide_eq_false (by simp)]
      rfl
    · refine x_ret w1 (ed_is (ed_andV (a := true) (ed_call (ea_cons (ed_var rfl) ea_nil) ⟨some a, rfl, rfl⟩) fun hb => ed_eqD (ed_var rfl) (ed_var rfl)) ?_) q
      rw [← eqv_S a b, Bool.true_and]
abbrev s_law_stretch : Stmt := topS 10
abbrev N_law_stretch : List Str := ["_law_x", "_law_y", "_law_low", "_law_high"]
theorem sc_law_stretch : FnScope N_law_stretch ["_law_x", "_law_y"] (defScope s_law_stretch) := ⟨rfl, rfl, rfl, by decide +kernel, rfl, by decide +kernel, by decide +kernel⟩
theorem ok_law_stretch {f : Addr} {fd : FuncData} (F : Df K mg "_law_stretch" s_law_stretch ["_law_x", "_law_y"] f fd) (B : Free mg BLT) (C_law_number : Cl P w K mg base 1 "_law_number" ["_law_x"] (SpR K R_number)) : Cl P w K mg base 2 "_law_stretch" ["_law_x", "_law_y"] (SpR K R_stretch) := by
  refine F.cl (ok_R (k := 1) F.fn sc_law_stretch (by rintro _ _ ⟨x, y, rfl, rfl⟩; rfl) (fun cdv A outer s H E hr => ⟨_, (pss_cons (ps_set (i := 2) sc_law_stretch.nd rfl (.inl rfl) (pe_cl C_law_number hr (by decide) (by rfl) (pa_cons (pv 0) pa_nil)))
    (pss_cons (ps_set (i := 3) sc_law_stretch.nd rfl (.inl rfl) (pe_op op_add (pv 2) (pe_ix ix_list (pe_lst (pa_cons pe_int (pa_cons (pe_op op_mod (pe_op op_fdiv (pv 1) pe_int) pe_int) (pa_cons (pe_op op_mod (pe_op op_fdiv (pv 1) pe_int) pe_int) (pa_cons (pe_op op_mod (pe_op op_fdiv (pv 1) pe_int) pe_int) pa_nil))))) (pe_op op_mod (pv 1) pe_int) (fun _ _ => rfl))))
    (pss_one (ps_ret (pe_tup (pa_cons (pv 2) (pa_cons (pe_callB (call_min2 rfl) (by rfl) (B "min" (by decide)) bt_min (pa_cons pe_int (pa_cons (pv 3) pa_nil))) pa_nil))))))), fun G vs ds d Q hR gh rp q => ?_⟩))
  obtain ⟨x, y, rfl, rfl⟩ := hR
  have w := w_start (K := K) (N := N_law_stretch) (n := 2) (dn := [some (.int x), some (.int y), none, none]) gh rp rfl rfl
  refine s_set w (ed_call (ea_cons (ed_var rfl) ea_nil) ⟨_, rfl, rfl⟩) fun v1 H1 w1 => ?_
  refine s_set w1 (ed_add (ed_var rfl) (ed_ixL (ed_lst (ea_cons ed_int (ea_cons (ed_mod (ed_div (ed_var rfl) ed_int (by walk_at "sd")) ed_int (by walk_at "sd")) (ea_cons (ed_mod (ed_div (ed_var rfl) ed_int (by walk_at "sd")) ed_int (by walk_at "sd")) (ea_cons (ed_mod (ed_div (ed_var rfl) ed_int (by walk_at "sd")) ed_int (by walk_at "sd")) ea_nil))))) (ed_mod (ed_var rfl) ed_int (by walk_at "sd")) (at4i (by walk_at "sd")))) fun v2 H2 w2 => ?_
  exact x_ret w2 (ed_is (ed_tup (ea_cons (ed_var rfl) (ea_cons (ed_min2 (ea_cons ed_int (ea_cons (ed_var rfl) ea_nil))) ea_nil))) (by rfl)) q
abbrev s_law_marks : Stmt := topS 11
abbrev N_law_marks : List Str := ["_law_script", "_law_one", "_law_marks_here", "_law_k", "_law_xs", "_law_mark"]
theorem sc_law_marks : FnScope N_law_marks ["_law_script", "_law_one"] (defScope s_law_marks) := ⟨rfl, rfl, rfl, by decide +kernel, rfl, by decide +kernel, by decide +kernel⟩
theorem ok_law_marks {f : Addr} {fd : FuncData} (F : Df K mg "_law_marks" s_law_marks ["_law_script", "_law_one"] f fd) (B : Free mg BLT) (C_law_stream : Cl P w K mg base 1 "_law_stream" ["_law_cell", "_law_many"] (SpR K R_stream)) (C_law_number : Cl P w K mg base 1 "_law_number" ["_law_x"] (SpR K R_number)) : Cl P w K mg base 2 "_law_marks" ["_law_script", "_law_one"] (SpR K R_lmarks) := by
  refine F.cl (ok_R (k := 1) F.fn sc_law_marks (by rintro _ _ ⟨ns, a, rfl, hn, rfl⟩; rfl) (fun cdv A outer s H E hr => ⟨_, (pss_cons (ps_set (i := 2) sc_law_marks.nd rfl (.inl rfl) (pe_lst pa_nil))
    (pss_cons (ps_for PassesOwn.never rfl (pi_range2 (by rfl) (B "range" (by decide)) (pa_cons pe_int (pa_cons (pe_callB call_len_seq (by rfl) (B "len" (by decide)) bt_len (pa_cons (pv 0) pa_nil)) pa_nil))) (pg_name (i := 3) sc_law_marks.nd rfl (Or.inl rfl)) (pss_cons (ps_set (i := 4) sc_law_marks.nd rfl (.inl rfl) (pe_cl C_law_stream hr (by decide) (by rfl) (pa_cons (pe_ix ix_list (pv 0) (pv 3) (fun _ _ => rfl)) (pa_cons pe_int pa_nil))))
    (pss_cons (ps_set (i := 5) sc_law_marks.nd rfl (.inl rfl) (pe_cl C_law_number hr (by decide) (by rfl) (pa_cons (pe_ix ix_list (pv 4) pe_int (fun _ _ => rfl)) pa_nil)))
    (pss_cut (ps_if0 (pt_cmpR op_eq (pe_op op_mod (pv 3) pe_int) pe_int (nomark _)) (pss_one (ps_set (i := 5) sc_law_marks.nd rfl (.inl rfl) (pe_op op_sub (pe_op op_add (pe_ix ix_tup (pv 1) (pe_op op_mod (pe_ix ix_list (pv 4) pe_int (fun _ _ => rfl)) pe_int) (fun _ _ => rfl)) (pe_op op_mod (pe_op op_fdiv (pe_ix ix_list (pv 4) pe_int (fun _ _ => rfl)) pe_int) pe_int)) pe_int))))
    (pss_one (ps_if0 (pt_chain op_le op_le (pe_un un_neg pe_int) (pv 5) pe_int) (pss_one (ps_expr (pe_bm PySem.F.plainAttrs_list PySem.F.slot_list_append PySem.F.type_list_append mt_append (pv 2) (pa_cons (pv 5) pa_nil))))))))))
    (pss_one (ps_ret (pe_callB (cr_sortedSet rfl) (by rfl) (B "sorted" (by decide)) bt_sorted (pa_cons (pe_callTy (cr_setL rfl) (by rfl) (B "set" (by decide)) bt_set (pa_cons (pv 2) pa_nil)) pa_nil)))))), fun G vs ds d Q hR gh rp q => ?_⟩))
  obtain ⟨ns, a, rfl, hn, rfl⟩ := hR
  have w := w_start (K := K) (N := N_law_marks) (n := 4) (dn := [some (.lst (ns.map .int)), some (dS (some a)), none, none, none, none]) gh rp rfl rfl
  refine s_own w (en_lst ea_nil (by decide)) fun b G1 H1 w1 => ?_
  refine s_forR2 w1 (ea_cons ed_int (ea_cons (ed_lenL (ea_cons (ed_var rfl) ea_nil)) ea_nil)) (by omega) (by rw [List.length_map]; omega) (fun i ow dn => ow = [(b, .lst ((rawF ns a i).map .int))] ∧ dn = [some (.lst (ns.map .int)), some (dS (some a)), some (.adr b), none, none, none]) ⟨_, ⟨rfl, rfl⟩, Le.refl _⟩ (fun i ow' dn' σ' G' H' v hi p w' => ?_) (fun ow' dn' σ' G' H' p w' => ?_)
  · obtain ⟨rfl, rfl⟩ := p
    rw [List.length_map] at hi
    refine s_set w' (ed_is (ed_call (ea_cons (ed_ixL (ed_var rfl) (ed_var rfl) (at_ints (by omega))) (ea_cons ed_int ea_nil)) ⟨_, _, rfl, (by walk_at "sd"), rfl⟩) (congrArg (fun l => Dt.lst (l.map .int)) (st2 _))) fun v2 H2 w2 => ?_
    refine s_set w2 (ed_call (ea_cons (ed_ixL (ed_var rfl) ed_int rfl) ea_nil) ⟨_, rfl, rfl⟩) fun v3 H3 w3 => ?_
    refine x_ifset w3 (et_test (ed_eq (ed_mod (ed_var rfl) ed_int (by walk_at "sd")) ed_int)) rfl (fun _ => (ed_sub (ed_add (ed_ixT (ed_var rfl) (ed_mod (ed_ixL (ed_var rfl) ed_int rfl) ed_int (by walk_at "sd")) (at2i (by walk_at "sd"))) (ed_mod (ed_div (ed_ixL (ed_var rfl) ed_int rfl) ed_int (by walk_at "sd")) ed_int (by walk_at "sd"))) ed_int)) fun σ4 G4 H4 w4 => ?_
    have e4 : ∀ (c : Prop) [Decidable c] (x y : Int), (if decide c = true then Dt.int x else Dt.int y) = Dt.int (if c then x else y) := fun c _ x y => by by_cases h : c <;> simp [h]
    rw [e4] at w4
    have w4 : Wd K (fr0 G H) _ [some (.lst (ns.map .int)), some (dS (some a)), some (.adr b), some (.int (2 + i)), some (.lst [.int (sqF (ns.getD ((2 : Int) + i).toNat 0) 2), .int (sqF (ns.getD ((2 : Int) + i).toNat 0) 3)]), some (.int (markF ns a (2 + i)))] _ _ _ := w4
    refine x_if0 w4 (et_test (ed_chain (ed_neg ed_int) (ed_var rfl) (fun hb => ed_int) rv_le fun hb => rv_le)) (fun hb H5 w5 => ?_) (fun hb H5 w5 => ?_)
    · have h : -1000000 ≤ markF ns a (2 + i) ∧ markF ns a (2 + i) ≤ 1000000 := by simpa using hb
      refine x_app (j := 0) w5 rfl (ed_var rfl) (ed_var rfl) (by rw [List.length_map]; have := rawF_len ns a i; omega) fun G6 H6 w6 => ?_
      refine At.mk w6 ⟨?_, rfl⟩ (by walk_at "le")
      show _ = [(b, Ob.lst ((rawF ns a i ++ _).map .int))]
      rw [if_pos h, List.map_append]
      rfl
    · have h : ¬ (-1000000 ≤ markF ns a (2 + i) ∧ markF ns a (2 + i) ≤ 1000000) := by simpa using hb
      refine At.mk w5 ⟨?_, rfl⟩ (by walk_at "le")
      show _ = [(b, Ob.lst ((rawF ns a i ++ _).map .int))]
      rw [if_neg h, List.append_nil]
  · obtain ⟨rfl, rfl⟩ := p
    have e : ((ns.map Dt.int).length - 2 : Int).toNat = ns.length - 2 := by rw [List.length_map]; omega
    rw [e] at w'
    have hl : (rawF ns a (ns.length - 2)).length < 64 := by have := rawF_len ns a (ns.length - 2); omega
    have w3 := w'.frozen (j := 0) (i := 2) rfl rfl (by simp [fr0])
    exact x_ret w3 (en_sortSet (ea_cons (ed_var rfl) ea_nil) hl).ed q
abbrev s_law : Stmt := topS 12
abbrev N_law : List Str := ["_law_script", "_law_xs", "_law_one", "_law_marks_here", "_law_handed", "_law_found", "_law_mark"]
theorem sc_law : FnScope N_law ["_law_script"] (defScope s_law) := ⟨rfl, rfl, rfl, by decide +kernel, rfl, by decide +kernel, by decide +kernel⟩
theorem ok_law {f : Addr} {fd : FuncData} (F : Df K mg "law" s_law ["_law_script"] f fd) (B : Free mg BLT) (C_law_stream : Cl P w K mg base 1 "_law_stream" ["_law_cell", "_law_many"] (SpR K R_stream)) (C_law_cell_at : Cl P w K mg base 1 "_law_cell_at" ["_law_script", "_law_k"] (SpR K R_cell)) (C_law_stretch : Cl P w K mg base 2 "_law_stretch" ["_law_x", "_law_y"] (SpR K R_stretch)) (C_law_marks : Cl P w K mg base 2 "_law_marks" ["_law_script", "_law_one"] (SpR K R_lmarks)) (C_rounded : Cl P w K mg base 1 "rounded" ["one", "marks"] (SpR K R_rounded)) (C_law_is_stretch : Cl P w K mg base 2 "_law_is_stretch" ["_law_found"] (SpR K R_is)) : FnOk P w K mg base CX0 3 f fd ["_law_script"] (SpR K R_law) := by
  refine (ok_R (k := 2) F.fn sc_law (by rintro _ _ ⟨ns, rfl, hn, rfl⟩; rfl) (fun cdv A outer s H E hr => ⟨_, (pss_cons (ps_set (i := 1) sc_law.nd rfl (.inl rfl) (pe_cl C_law_stream hr (by decide) (by rfl) (pa_cons (pe_cl C_law_cell_at hr (by decide) (by rfl) (pa_cons (pv 0) (pa_cons pe_int pa_nil))) (pa_cons pe_int pa_nil))))
    (pss_cons (ps_set (i := 2) sc_law.nd rfl (.inl rfl) (pe_cl C_law_stretch hr (by decide) (by rfl) (pa_cons (pe_ix ix_list (pv 1) pe_int (fun _ _ => rfl)) (pa_cons (pe_ix ix_list (pv 1) pe_int (fun _ _ => rfl)) pa_nil))))
    (pss_cons (ps_set (i := 3) sc_law.nd rfl (.inl rfl) (pe_cl C_law_marks hr (by decide) (by rfl) (pa_cons (pv 0) (pa_cons (pv 2) pa_nil))))
    (pss_cons (ps_set (i := 4) sc_law.nd rfl (.inl rfl) (pe_callTy call_list_of (by rfl) (B "list" (by decide)) bt_list (pa_cons (pv 3) pa_nil)))
    (pss_cons (ps_set (i := 5) sc_law.nd rfl (.inl rfl) (pe_cl C_rounded hr (by decide) (by rfl) (pa_cons (pv 2) (pa_cons (pv 4) pa_nil))))
    (pss_cons (ps_if0 ((pw_or (pt_not (pt_val (pe_cl C_law_is_stretch hr (by decide) (by rfl) (pa_cons (pv 5) pa_nil)))) (pw_or1 (pt_cmpR (op_neD hr.units) (pv 4) (pv 3) (nomark _))))).pt (pss_one (ps_ret pe_bl)))
    (pss_cons (ps_if0 ((pw_or (pt_cmpR op_gt (pe_ix ix_tup (pv 5) pe_int (fun _ _ => rfl)) (pe_ix ix_tup (pv 2) pe_int (fun _ _ => rfl)) (nomark _)) (pw_or1 (pt_cmpR op_lt (pe_ix ix_tup (pv 5) pe_int (fun _ _ => rfl)) (pe_ix ix_tup (pv 2) pe_int (fun _ _ => rfl)) (nomark _))))).pt (pss_one (ps_ret pe_bl)))
    (pss_cons (ps_if0 ((pw_or ((pw_and (pt_cmpR op_ne (pe_ix ix_tup (pv 5) pe_int (fun _ _ => rfl)) (pe_un un_neg pe_int) (nomark _)) (pw_and1 (pt_cmpR op_notIn_seq (pe_ix ix_tup (pv 5) pe_int (fun _ _ => rfl)) (pv 3) rfl)))).pt (pw_or1 ((pw_and (pt_cmpR op_ne (pe_ix ix_tup (pv 5) pe_int (fun _ _ => rfl)) pe_int (nomark _)) (pw_and1 (pt_cmpR op_notIn_seq (pe_ix ix_tup (pv 5) pe_int (fun _ _ => rfl)) (pv 3) rfl)))).pt))).pt (pss_one (ps_ret pe_bl)))
    (pss_cons (ps_for PassesOwn.never rfl (pi_list (pv 3)) (pg_name (i := 6) sc_law.nd rfl (Or.inl rfl)) (pss_one (ps_if0 ((pw_or (pt_chain op_lt op_le (pe_ix ix_tup (pv 5) pe_int (fun _ _ => rfl)) (pv 6) (pe_ix ix_tup (pv 2) pe_int (fun _ _ => rfl))) (pw_or1 (pt_chain op_le op_lt (pe_ix ix_tup (pv 2) pe_int (fun _ _ => rfl)) (pv 6) (pe_ix ix_tup (pv 5) pe_int (fun _ _ => rfl)))))).pt (pss_one (ps_ret pe_bl)))))
    (pss_one (ps_ret pe_bl))))))))))), fun G vs ds d Q hR gh rp q => ?_⟩))
  obtain ⟨ns, rfl, hn, rfl⟩ := hR
  have w := w_start (K := K) (N := N_law) (n := 6) (dn := [some (.lst (ns.map .int)), none, none, none, none, none, none]) gh rp rfl rfl
  refine s_set w (ed_is (ed_call (ea_cons (ed_call (ea_cons (ed_var rfl) (ea_cons ed_int ea_nil)) ⟨_, _, rfl, (by walk_at "sd"), rfl⟩) (ea_cons ed_int ea_nil)) ⟨_, _, rfl, (by walk_at "sd"), rfl⟩) (congrArg (fun l => Dt.lst (l.map .int)) (st2 _))) fun v1 H1 w1 => ?_
  refine s_set w1 (ed_call (ea_cons (ed_ixL (ed_var rfl) ed_int rfl) (ea_cons (ed_ixL (ed_var rfl) ed_int rfl) ea_nil)) ⟨_, _, rfl, rfl⟩) fun v2 H2 w2 => ?_
  have hone := strF_lt (sqF (cellF ns 0) 2) (sqF (cellF ns 0) 3)
  generalize strF (sqF (cellF ns 0) 2) (sqF (cellF ns 0) 3) = one at *
  refine s_set w2 (ed_call (ea_cons (ed_var rfl) (ea_cons (ed_var rfl) ea_nil)) ⟨_, _, rfl, by assumption, rfl⟩) fun v3 H3 w3 => ?_
  generalize srtS (rawF ns one (ns.length - 2)) = ms at *
  refine s_set w3 (ed_list (ea_cons (ed_var rfl) ea_nil)) fun v4 H4 w4 => ?_
  refine s_set w4 (ed_call (ea_cons (ed_var rfl) (ea_cons (ed_var rfl) ea_nil)) ⟨_, _, rfl, rfl⟩) fun v5 H5 w5 => ?_
  have hr := round_ok hone.1 hone.2.2 ms
  generalize roundF one ms = f at *
  refine s_if0F w5 (et_or (et_not (et_B (ed_call (ea_cons (ed_var rfl) ea_nil) ⟨_, rfl, rfl⟩))) fun hb => (et_test (ed_neLI (ed_var rfl) (ed_var rfl)))) (by simp) fun H6 w6 => ?_
  refine s_if0F w6 (et_or (et_test (ed_gt (ed_ixT (ed_var rfl) ed_int rfl) (ed_ixT (ed_var rfl) ed_int rfl))) fun hb => (et_test (ed_lt (ed_ixT (ed_var rfl) ed_int rfl) (ed_ixT (ed_var rfl) ed_int rfl)))) (by rw [decide_eq_false (show ¬ (one.1 < f.1) by have := hr.l1; omega), decide_eq_false (show ¬ (f.2 < one.2) by have := hr.h1; omega)]; rfl) fun H7 w7 => ?_
  refine s_if0F w7 (et_or (et_and (et_test (ed_ne (ed_ixT (ed_var rfl) ed_int rfl) (ed_neg ed_int))) fun hb => (et_test (ed_niI (ed_ixT (ed_var rfl) ed_int rfl) (ed_var rfl)))) fun hb => (et_and (et_test (ed_ne (ed_ixT (ed_var rfl) ed_int rfl) ed_int)) fun hb => (et_test (ed_niI (ed_ixT (ed_var rfl) ed_int rfl) (ed_var rfl))))) (by have h1 := hr.l2; have h2 := hr.h2; rcases h1 with h1 | h1 <;> rcases h2 with h2 | h2 <;> simp [h1, h2]) fun H8 w8 => ?_
  refine s_forL w8 (ed_var rfl) (fun i ow dn => ow = [] ∧ dn = [some (.lst (ns.map .int)), some (.lst [.int (sqF (cellF ns 0) 2), .int (sqF (cellF ns 0) 3)]), some (dS (some one)), some (.lst (ms.map .int)), some (.lst (ms.map .int)), some (dS (some f)), none]) ⟨_, ⟨rfl, rfl⟩, Le.refl _⟩ (fun i d ow' dn' σ' B' G' H' v hd p w' => ?_) (fun ow' dn' σ' G' H' p w' => ?_)
  · obtain ⟨rfl, rfl⟩ := p
    rw [List.getElem?_map] at hd
    obtain ⟨m, hm, rfl⟩ := Option.map_eq_some_iff.mp hd
    have hmem := List.mem_of_getElem? hm
    refine x_if0F w' (et_or (et_test (ed_chain (ed_ixT (ed_var rfl) ed_int rfl) (ed_var rfl) (fun hb => (ed_ixT (ed_var rfl) ed_int rfl)) rv_lt fun hb => rv_le)) fun hb => (et_test (ed_chain (ed_ixT (ed_var rfl) ed_int rfl) (ed_var rfl) (fun hb => (ed_ixT (ed_var rfl) ed_int rfl)) rv_le fun hb => rv_lt))) ?_ fun H9 w9 => At.mk w9 ⟨rfl, rfl⟩ (by walk_at "le")
    have h1 := hr.l3 m hmem
    have h2 := hr.h3 m hmem
    rw [Bool.or_eq_false_iff, Bool.and_eq_false_iff, Bool.and_eq_false_iff]
    simp only [decide_eq_false_iff_not]
    omega
  · obtain ⟨rfl, rfl⟩ := p
    exact x_ret w' ed_bl q
end
theorem all_mk {l : PySem.W.OpenLaw} {w : World} {K : PySem.W.Frag} {h : Heap} {mg : Str → Option Value} {fa f0 f1 f2 f3 f4 f5 f6 f7 f8 f9 : Addr} (X : K.In h) (G : h.Ns mainGlobals mg) (hfa : mg "law" = some (.ref fa))
    {od0 an0 : Option Addr} {sl0 : Array (Option Value)} {oc0 kV0 dc0 pm0 cd0 ct0 : Value} {od1 an1 : Option Addr} {sl1 : Array (Option Value)} {oc1 kV1 dc1 pm1 cd1 ct1 : Value} {od2 an2 : Option Addr} {sl2 : Array (Option Value)} {oc2 kV2 dc2 pm2 cd2 ct2 : Value} {od3 an3 : Option Addr} {sl3 : Array (Option Value)} {oc3 kV3 dc3 pm3 cd3 ct3 : Value} {od4 an4 : Option Addr} {sl4 : Array (Option Value)} {oc4 kV4 dc4 pm4 cd4 ct4 : Value} {od5 an5 : Option Addr} {sl5 : Array (Option Value)} {oc5 kV5 dc5 pm5 cd5 ct5 : Value} {od6 an6 : Option Addr} {sl6 : Array (Option Value)} {oc6 kV6 dc6 pm6 cd6 ct6 : Value} {od7 an7 : Option Addr} {sl7 : Array (Option Value)} {oc7 kV7 dc7 pm7 cd7 ct7 : Value} {od8 an8 : Option Addr} {sl8 : Array (Option Value)} {oc8 kV8 dc8 pm8 cd8 ct8 : Value} {od9 an9 : Option Addr} {sl9 : Array (Option Value)} {oc9 kV9 dc9 pm9 cd9 ct9 : Value}
    (a0 : PySem.W.nsIn K mainGlobals "rounded" = some (some (.ref f0))) (l0 : K.lookup f0 = some ⟨oc0, od0, .func (PySem.W.fnOf "rounded" "rounded" (defArgs s_rounded) (defBody s_rounded) (defScope s_rounded) .none kV0 dc0 pm0 an0 cd0 ct0), sl0⟩) (c0 : PySem.W.codeIn K cd0 "rounded" = true) (k0 : PySem.W.keepIn K (.ref f0) = true)
    (a1 : PySem.W.nsIn K mainGlobals "_law_cell_at" = some (some (.ref f1))) (l1 : K.lookup f1 = some ⟨oc1, od1, .func (PySem.W.fnOf "_law_cell_at" "_law_cell_at" (defArgs s_law_cell_at) (defBody s_law_cell_at) (defScope s_law_cell_at) .none kV1 dc1 pm1 an1 cd1 ct1), sl1⟩) (c1 : PySem.W.codeIn K cd1 "_law_cell_at" = true) (k1 : PySem.W.keepIn K (.ref f1) = true)
    (a2 : PySem.W.nsIn K mainGlobals "_law_stream" = some (some (.ref f2))) (l2 : K.lookup f2 = some ⟨oc2, od2, .func (PySem.W.fnOf "_law_stream" "_law_stream" (defArgs s_law_stream) (defBody s_law_stream) (defScope s_law_stream) .none kV2 dc2 pm2 an2 cd2 ct2), sl2⟩) (c2 : PySem.W.codeIn K cd2 "_law_stream" = true) (k2 : PySem.W.keepIn K (.ref f2) = true)
    (a3 : PySem.W.nsIn K mainGlobals "_law_number" = some (some (.ref f3))) (l3 : K.lookup f3 = some ⟨oc3, od3, .func (PySem.W.fnOf "_law_number" "_law_number" (defArgs s_law_number) (defBody s_law_number) (defScope s_law_number) .none kV3 dc3 pm3 an3 cd3 ct3), sl3⟩) (c3 : PySem.W.codeIn K cd3 "_law_number" = true) (k3 : PySem.W.keepIn K (.ref f3) = true)
    (a4 : PySem.W.nsIn K mainGlobals "_law_whole" = some (some (.ref f4))) (l4 : K.lookup f4 = some ⟨oc4, od4, .func (PySem.W.fnOf "_law_whole" "_law_whole" (defArgs s_law_whole) (defBody s_law_whole) (defScope s_law_whole) .none kV4 dc4 pm4 an4 cd4 ct4), sl4⟩) (c4 : PySem.W.codeIn K cd4 "_law_whole" = true) (k4 : PySem.W.keepIn K (.ref f4) = true)
    (a5 : PySem.W.nsIn K mainGlobals "_law_is_stretch" = some (some (.ref f5))) (l5 : K.lookup f5 = some ⟨oc5, od5, .func (PySem.W.fnOf "_law_is_stretch" "_law_is_stretch" (defArgs s_law_is_stretch) (defBody s_law_is_stretch) (defScope s_law_is_stretch) .none kV5 dc5 pm5 an5 cd5 ct5), sl5⟩) (c5 : PySem.W.codeIn K cd5 "_law_is_stretch" = true) (k5 : PySem.W.keepIn K (.ref f5) = true)
    (a6 : PySem.W.nsIn K mainGlobals "_law_alike" = some (some (.ref f6))) (l6 : K.lookup f6 = some ⟨oc6, od6, .func (PySem.W.fnOf "_law_alike" "_law_alike" (defArgs s_law_alike) (defBody s_law_alike) (defScope s_law_alike) .none kV6 dc6 pm6 an6 cd6 ct6), sl6⟩) (c6 : PySem.W.codeIn K cd6 "_law_alike" = true) (k6 : PySem.W.keepIn K (.ref f6) = true)
    (a7 : PySem.W.nsIn K mainGlobals "_law_stretch" = some (some (.ref f7))) (l7 : K.lookup f7 = some ⟨oc7, od7, .func (PySem.W.fnOf "_law_stretch" "_law_stretch" (defArgs s_law_stretch) (defBody s_law_stretch) (defScope s_law_stretch) .none kV7 dc7 pm7 an7 cd7 ct7), sl7⟩) (c7 : PySem.W.codeIn K cd7 "_law_stretch" = true) (k7 : PySem.W.keepIn K (.ref f7) = true)
    (a8 : PySem.W.nsIn K mainGlobals "_law_marks" = some (some (.ref f8))) (l8 : K.lookup f8 = some ⟨oc8, od8, .func (PySem.W.fnOf "_law_marks" "_law_marks" (defArgs s_law_marks) (defBody s_law_marks) (defScope s_law_marks) .none kV8 dc8 pm8 an8 cd8 ct8), sl8⟩) (c8 : PySem.W.codeIn K cd8 "_law_marks" = true) (k8 : PySem.W.keepIn K (.ref f8) = true)
    (a9 : PySem.W.nsIn K mainGlobals "law" = some (some (.ref f9))) (l9 : K.lookup f9 = some ⟨oc9, od9, .func (PySem.W.fnOf "law" "law" (defArgs s_law) (defBody s_law) (defScope s_law) .none kV9 dc9 pm9 an9 cd9 ct9), sl9⟩) (c9 : PySem.W.codeIn K cd9 "law" = true) (k9 : PySem.W.keepIn K (.ref f9) = true)
    (z0 : PySem.W.nsIn K mainGlobals "bool" = some none)
    (z1 : PySem.W.nsIn K mainGlobals "int" = some none)
    (z2 : PySem.W.nsIn K mainGlobals "isinstance" = some none)
    (z3 : PySem.W.nsIn K mainGlobals "len" = some none)
    (z4 : PySem.W.nsIn K mainGlobals "list" = some none)
    (z5 : PySem.W.nsIn K mainGlobals "min" = some none)
    (z6 : PySem.W.nsIn K mainGlobals "range" = some none)
    (z7 : PySem.W.nsIn K mainGlobals "set" = some none)
    (z8 : PySem.W.nsIn K mainGlobals "sorted" = some none)
    (z9 : PySem.W.nsIn K mainGlobals "tuple" = some none)
    {tg0 : Tok} (y0 : PySem.W.nsIn K mainGlobals "LIMIT" = some (some (.int 1000000 tg0)))
    : ∃ fd : FuncData, (∀ (s : Shared) (v : Value), BindsTo s fd ⟨[v], []⟩ [("_law_script", v)]) ∧ ∀ base : Heap, K.In base → base.Ns mainGlobals mg → FnOk l.prog w K mg base CX0 3 fa fd ["_law_script"] (SpR K R_law) := by
  have e := hfa.symm.trans (PySem.W.mg_of X G a9)
  cases e
  have B : Free mg BLT := (.cons (PySem.W.mg_none_of X G z0) (.cons (PySem.W.mg_none_of X G z1) (.cons (PySem.W.mg_none_of X G z2) (.cons (PySem.W.mg_none_of X G z3) (.cons (PySem.W.mg_none_of X G z4) (.cons (PySem.W.mg_none_of X G z5) (.cons (PySem.W.mg_none_of X G z6) (.cons (PySem.W.mg_none_of X G z7) (.cons (PySem.W.mg_none_of X G z8) (.cons (PySem.W.mg_none_of X G z9) .nil))))))))))
  have F0 : Df K mg "rounded" s_rounded ["one", "marks"] _ _ := ⟨fun_mk (st := s_rounded) l0 c0 k0, PySem.W.mg_of X G a0, (fun_mk (st := s_rounded) l0 c0 k0).binds (ps := ["one", "marks"]) fun _ _ _ _ _ _ us hl => match us, hl with | [_, _], _ => rfl⟩
  have F1 : Df K mg "_law_cell_at" s_law_cell_at ["_law_script", "_law_k"] _ _ := ⟨fun_mk (st := s_law_cell_at) l1 c1 k1, PySem.W.mg_of X G a1, (fun_mk (st := s_law_cell_at) l1 c1 k1).binds (ps := ["_law_script", "_law_k"]) fun _ _ _ _ _ _ us hl => match us, hl with | [_, _], _ => rfl⟩
  have F2 : Df K mg "_law_stream" s_law_stream ["_law_cell", "_law_many"] _ _ := ⟨fun_mk (st := s_law_stream) l2 c2 k2, PySem.W.mg_of X G a2, (fun_mk (st := s_law_stream) l2 c2 k2).binds (ps := ["_law_cell", "_law_many"]) fun _ _ _ _ _ _ us hl => match us, hl with | [_, _], _ => rfl⟩
  have F3 : Df K mg "_law_number" s_law_number ["_law_x"] _ _ := ⟨fun_mk (st := s_law_number) l3 c3 k3, PySem.W.mg_of X G a3, (fun_mk (st := s_law_number) l3 c3 k3).binds (ps := ["_law_x"]) fun _ _ _ _ _ _ us hl => match us, hl with | [_], _ => rfl⟩
  have F4 : Df K mg "_law_whole" s_law_whole ["_law_found"] _ _ := ⟨fun_mk (st := s_law_whole) l4 c4 k4, PySem.W.mg_of X G a4, (fun_mk (st := s_law_whole) l4 c4 k4).binds (ps := ["_law_found"]) fun _ _ _ _ _ _ us hl => match us, hl with | [_], _ => rfl⟩
  have F5 : Df K mg "_law_is_stretch" s_law_is_stretch ["_law_found"] _ _ := ⟨fun_mk (st := s_law_is_stretch) l5 c5 k5, PySem.W.mg_of X G a5, (fun_mk (st := s_law_is_stretch) l5 c5 k5).binds (ps := ["_law_found"]) fun _ _ _ _ _ _ us hl => match us, hl with | [_], _ => rfl⟩
  have F6 : Df K mg "_law_alike" s_law_alike ["_law_found", "_law_due"] _ _ := ⟨fun_mk (st := s_law_alike) l6 c6 k6, PySem.W.mg_of X G a6, (fun_mk (st := s_law_alike) l6 c6 k6).binds (ps := ["_law_found", "_law_due"]) fun _ _ _ _ _ _ us hl => match us, hl with | [_, _], _ => rfl⟩
  have F7 : Df K mg "_law_stretch" s_law_stretch ["_law_x", "_law_y"] _ _ := ⟨fun_mk (st := s_law_stretch) l7 c7 k7, PySem.W.mg_of X G a7, (fun_mk (st := s_law_stretch) l7 c7 k7).binds (ps := ["_law_x", "_law_y"]) fun _ _ _ _ _ _ us hl => match us, hl with | [_, _], _ => rfl⟩
  have F8 : Df K mg "_law_marks" s_law_marks ["_law_script", "_law_one"] _ _ := ⟨fun_mk (st := s_law_marks) l8 c8 k8, PySem.W.mg_of X G a8, (fun_mk (st := s_law_marks) l8 c8 k8).binds (ps := ["_law_script", "_law_one"]) fun _ _ _ _ _ _ us hl => match us, hl with | [_, _], _ => rfl⟩
  have F9 : Df K mg "law" s_law ["_law_script"] _ _ := ⟨fun_mk (st := s_law) l9 c9 k9, PySem.W.mg_of X G a9, (fun_mk (st := s_law) l9 c9 k9).binds (ps := ["_law_script"]) fun _ _ _ _ _ _ us hl => match us, hl with | [_], _ => rfl⟩
  refine ⟨(PySem.W.fnOf "law" "law" (defArgs s_law) (defBody s_law) (defScope s_law) .none kV9 dc9 pm9 an9 cd9 ct9), fun s v => .of_eq rfl, fun base _ _ => ?_⟩
  have D_law_stream := ok_law_stream F2 B (P := l.prog) (w := w) (base := base)
  have D_law_cell_at := ok_law_cell_at F1 B (P := l.prog) (w := w) (base := base)
  have D_law_number := ok_law_number F3 B (P := l.prog) (w := w) (base := base)
  have D_law_stretch := ok_law_stretch F7 B D_law_number (P := l.prog) (w := w) (base := base)
  have D_law_marks := ok_law_marks F8 B D_law_stream D_law_number (P := l.prog) (w := w) (base := base)
  have D_rounded := ok_rounded F0 ⟨_, PySem.W.mg_of X G y0⟩ (P := l.prog) (w := w) (base := base)
  have D_law_whole := ok_law_whole F4 B (P := l.prog) (w := w) (base := base)
  have D_law_is_stretch := ok_law_is_stretch F5 B D_law_whole (P := l.prog) (w := w) (base := base)
  exact ok_law F9 B D_law_stream D_law_cell_at D_law_stretch D_law_marks D_rounded D_law_is_stretch
end BW
open PySem PySem.W PyProof.Rows
set_option maxRecDepth 100000 in
set_option maxHeartbeats 0 in
theorem PySem.Challenge.cw_boundwatch_k04_rounded_by_marks_holds : PySem.Challenge.rw_boundwatch_k04_rounded_by_marks.Holds := by
  w_on; o_law; k_head; (case hw => w_witness2)
  k_fill
  refine L2.walk_of (l := PySem.Challenge.rw_boundwatch_k04_rounded_by_marks) (n := 63) (k := 3) (x := "_law_script") (CX := fun _ => L2.CX0) (sp := fun w => BW.SpR _ BW.R_law) rfl (by decide) rfl ⟨rfl, by decide, by decide⟩ (fun w h Y => PySem.W.kIn_of Y) ?F (fun _ H a ns hl _ hS => BW.sp_end ⟨ns, rfl, hl, rfl⟩ hS) (fun _ _ _ _ _ h => h)
  case F =>
    intro w mg fa h KX G hmg
    refine' BW.all_mk KX G hmg ?a0 ?l0 ?c0 ?k0 ?a1 ?l1 ?c1 ?k1 ?a2 ?l2 ?c2 ?k2 ?a3 ?l3 ?c3 ?k3 ?a4 ?l4 ?c4 ?k4 ?a5 ?l5 ?c5 ?k5 ?a6 ?l6 ?c6 ?k6 ?a7 ?l7 ?c7 ?k7 ?a8 ?l8 ?c8 ?k8 ?a9 ?l9 ?c9 ?k9 ?z0 ?z1 ?z2 ?z3 ?z4 ?z5 ?z6 ?z7 ?z8 ?z9 ?y0
    (case a0 => k_is); (case l0 => k_is); (case c0 => k_is); (case k0 => k_is); (case a1 => k_is); (case l1 => k_is); (case c1 => k_is); (case k1 => k_is); (case a2 => k_is); (case l2 => k_is); (case c2 => k_is); (case k2 => k_is); (case a3 => k_is); (case l3 => k_is); (case c3 => k_is); (case k3 => k_is); (case a4 => k_is); (case l4 => k_is); (case c4 => k_is); (case k4 => k_is); (case a5 => k_is); (case l5 => k_is); (case c5 => k_is); (case k5 => k_is); (case a6 => k_is); (case l6 => k_is); (case c6 => k_is); (case k6 => k_is); (case a7 => k_is); (case l7 => k_is); (case c7 => k_is); (case k7 => k_is); (case a8 => k_is); (case l8 => k_is); (case c8 => k_is); (case k8 => k_is); (case a9 => k_is); (case l9 => k_is); (case c9 => k_is); (case k9 => k_is); (case z0 => k_is); (case z1 => k_is); (case z2 => k_is); (case z3 => k_is); (case z4 => k_is); (case z5 => k_is); (case z6 => k_is); (case z7 => k_is); (case z8 => k_is); (case z9 => k_is); (case y0 => k_is)
