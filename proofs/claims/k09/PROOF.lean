import PyProof.Rows.All
import Wide.All
import OpenK.AllK
import Wide.FinOn
import HandS.ForMost
import HandS.IsInst
import HandS.Flow
import KE.KEqNest
import HandS.SortInts
import HandS.Zip
import HandS.Walk
import HandS.Finally
import HandS.Codes
import PySem.Challenge.RW_boundwatch_k09_what_conditions_keep
set_option Elab.async false
set_option linter.all false
set_option maxRecDepth 100000
set_option maxHeartbeats 4000000
/-! BW1: data as a whole over the hand layer: what stands for a datum, heaps, what is owned, pure evaluation. -/
namespace BW
open PySem L2 PySem.Spec

/-- a datum -/
inductive Dt where
  | non | bl (b : Bool) | int (i : Int) | str (x : Str) | ty (n : String) | adr (a : Addr)
  | tup (xs : List Dt) | lst (xs : List Dt) | dct (kvs : List (Key × Dt)) | ins (C : Addr) (fs : List (Str × Dt))

/-- scalars -/
def Dt.sc : Dt → Bool
  | .non | .bl _ | .int _ | .str _ | .ty _ | .adr _ => true
  | _ => false

section
variable (K : PySem.W.Frag) (H : Hp)
mutual
inductive Rp : V → Dt → Prop
  | non : Rp .non .non
  | bl (b : Bool) : Rp (.bl b) (.bl b)
  | int (i : Int) : Rp (.int i) (.int i)
  | str (x : Str) : Rp (.str x) (.str x)
  | ty (n : String) : Rp (.ty n) (.ty n)
  | adr (a : Addr) : Rp (.ref a) (.adr a)
  | tup {a : Addr} {vs : List V} {ds : List Dt} : SqT K H a vs → RpA vs ds → Rp (.ref a) (.tup ds)
  | lst {a : Addr} {vs : List V} {ds : List Dt} : SqL K H a vs → RpA vs ds → Rp (.ref a) (.lst ds)
  | dct {a : Addr} {ks : List (Key × V)} {ds : List (Key × Dt)} : Rd H a (.dK ks) → RpK ks ds → Rp (.ref a) (.dct ds)
  | ins {a C dx : Addr} {fs : List (Str × V)} {ds : List (Str × Dt)} : H a = some (.ins C dx fs) → RpF fs ds → Rp (.ref a) (.ins C ds)
inductive RpA : List V → List Dt → Prop
  | nil : RpA [] []
  | cons {v : V} {vs : List V} {d : Dt} {ds : List Dt} : Rp v d → RpA vs ds → RpA (v :: vs) (d :: ds)
inductive RpK : List (Key × V) → List (Key × Dt) → Prop
  | nil : RpK [] []
  | cons {k : Key} {v : V} {vs : List (Key × V)} {d : Dt} {ds : List (Key × Dt)} : Rp v d → RpK vs ds → RpK ((k, v) :: vs) ((k, d) :: ds)
inductive RpF : List (Str × V) → List (Str × Dt) → Prop
  | nil : RpF [] []
  | cons {k : Str} {v : V} {vs : List (Str × V)} {d : Dt} {ds : List (Str × Dt)} : Rp v d → RpF vs ds → RpF ((k, v) :: vs) ((k, d) :: ds)
end
end

theorem same_rd {H H' : Hp} {a : Addr} {u : HO} (e : Same H H') (h : Rd H a u) : Rd H' a u := by
  rcases h with h | ⟨o, h⟩
  · exact .inl (e a _ h)
  · exact .inr ⟨o, e a _ h⟩
theorem same_t {K : PySem.W.Frag} {H H' : Hp} {a : Addr} {xs : List V} (e : Same H H') (h : SqT K H a xs) : SqT K H' a xs := by
  rcases h with h | h
  · exact .inl (same_rd e h)
  · exact .inr h

section
variable {K : PySem.W.Frag} {H H' : Hp}
mutual
theorem Rp.mono (e : Same H H') : ∀ {v : V} {d : Dt}, Rp K H v d → Rp K H' v d
  | _, _, .non => .non
  | _, _, .bl b => .bl b
  | _, _, .int i => .int i
  | _, _, .str x => .str x
  | _, _, .ty n => .ty n
  | _, _, .adr a => .adr a
  | _, _, .tup h r => .tup (same_t e h) (RpA.mono e r)
  | _, _, .lst h r => .lst (e.seq h) (RpA.mono e r)
  | _, _, .dct h r => .dct (same_rd e h) (RpK.mono e r)
  | _, _, .ins h r => .ins (e _ _ h) (RpF.mono e r)
theorem RpA.mono (e : Same H H') : ∀ {vs : List V} {ds : List Dt}, RpA K H vs ds → RpA K H' vs ds
  | _, _, .nil => .nil
  | _, _, .cons h r => .cons (Rp.mono e h) (RpA.mono e r)
theorem RpK.mono (e : Same H H') : ∀ {vs : List (Key × V)} {ds : List (Key × Dt)}, RpK K H vs ds → RpK K H' vs ds
  | _, _, .nil => .nil
  | _, _, .cons h r => .cons (Rp.mono e h) (RpK.mono e r)
theorem RpF.mono (e : Same H H') : ∀ {vs : List (Str × V)} {ds : List (Str × Dt)}, RpF K H vs ds → RpF K H' vs ds
  | _, _, .nil => .nil
  | _, _, .cons h r => .cons (Rp.mono e h) (RpF.mono e r)
end
theorem Rp.sc {v : V} {d : Dt} (h : Rp K H v d) (s : d.sc = true) : Rp K H' v d := by
  cases h with
  | non => exact .non
  | bl b => exact .bl b
  | int i => exact .int i
  | str x => exact .str x
  | ty n => exact .ty n
  | adr a => exact .adr a
  | tup _ _ => cases s
  | lst _ _ => cases s
  | dct _ _ => cases s
  | ins _ _ => cases s
theorem Rp.i {v : V} {i : Int} (h : Rp K H v (.int i)) : v = .int i := by cases h; rfl
theorem Rp.b {v : V} {i : Bool} (h : Rp K H v (.bl i)) : v = .bl i := by cases h; rfl
theorem Rp.s {v : V} {i : Str} (h : Rp K H v (.str i)) : v = .str i := by cases h; rfl
theorem Rp.n {v : V} (h : Rp K H v .non) : v = .non := by cases h; rfl
theorem Rp.a {v : V} {a : Addr} (h : Rp K H v (.adr a)) : v = .ref a := by cases h; rfl
theorem Rp.t {v : V} {n : String} (h : Rp K H v (.ty n)) : v = .ty n := by cases h; rfl
theorem Rp.T {v : V} {ds : List Dt} (h : Rp K H v (.tup ds)) : ∃ a vs, v = .ref a ∧ SqT K H a vs ∧ RpA K H vs ds := by
  cases h with
  | tup h r => exact ⟨_, _, rfl, h, r⟩
theorem Rp.L {v : V} {ds : List Dt} (h : Rp K H v (.lst ds)) : ∃ a vs, v = .ref a ∧ SqL K H a vs ∧ RpA K H vs ds := by
  cases h with
  | lst h r => exact ⟨_, _, rfl, h, r⟩
theorem Rp.D {v : V} {ds : List (Key × Dt)} (h : Rp K H v (.dct ds)) : ∃ a vs, v = .ref a ∧ Rd H a (.dK vs) ∧ RpK K H vs ds := by
  cases h with
  | dct h r => exact ⟨_, _, rfl, h, r⟩
theorem RpA.length : ∀ {vs : List V} {ds : List Dt}, RpA K H vs ds → vs.length = ds.length
  | _, _, .nil => rfl
  | _, _, .cons _ r => by
    show _ + 1 = _ + 1
    rw [RpA.length r]
theorem RpK.length : ∀ {vs : List (Key × V)} {ds : List (Key × Dt)}, RpK K H vs ds → vs.length = ds.length
  | _, _, .nil => rfl
  | _, _, .cons _ r => by
    show _ + 1 = _ + 1
    rw [RpK.length r]
theorem RpA.get : ∀ {vs : List V} {ds : List Dt} {i : Nat} {d : Dt}, RpA K H vs ds → ds[i]? = some d → ∃ v, vs[i]? = some v ∧ Rp K H v d
  | _, _, _, _, .nil, e => by simp at e
  | _, _, 0, _, .cons h _, e => by
    have q := Option.some.inj e
    subst q
    exact ⟨_, rfl, h⟩
  | _, _, i + 1, _, .cons _ r, e => RpA.get (i := i) r (by simpa using e)
theorem RpA.get' : ∀ {vs : List V} {ds : List Dt} {i : Nat} {v : V}, RpA K H vs ds → vs[i]? = some v → ∃ d, ds[i]? = some d ∧ Rp K H v d
  | _, _, _, _, .nil, e => by simp at e
  | _, _, 0, _, .cons h _, e => by
    have q := Option.some.inj e
    subst q
    exact ⟨_, rfl, h⟩
  | _, _, i + 1, _, .cons _ r, e => RpA.get' (i := i) r (by simpa using e)
theorem RpA.append : ∀ {vs us : List V} {ds es : List Dt}, RpA K H vs ds → RpA K H us es → RpA K H (vs ++ us) (ds ++ es)
  | _, _, _, _, .nil, s => s
  | _, _, _, _, .cons h r, s => .cons h (RpA.append r s)
theorem RpA.set {v : V} {d : Dt} (h : Rp K H v d) : ∀ {vs : List V} {ds : List Dt} (i : Nat), RpA K H vs ds → RpA K H (vs.set i v) (ds.set i d)
  | _, _, _, .nil => .nil
  | _, _, 0, .cons _ r => .cons h r
  | _, _, i + 1, .cons q r => .cons q (RpA.set h i r)
theorem RpA.take : ∀ {vs : List V} {ds : List Dt} (n : Nat), RpA K H vs ds → RpA K H (vs.take n) (ds.take n)
  | _, _, 0, _ => by
    rw [List.take_zero, List.take_zero]
    exact .nil
  | _, _, _ + 1, .nil => .nil
  | _, _, n + 1, .cons h r => .cons h (RpA.take n r)
theorem RpA.drop : ∀ {vs : List V} {ds : List Dt} (n : Nat), RpA K H vs ds → RpA K H (vs.drop n) (ds.drop n)
  | _, _, 0, r => r
  | _, _, _ + 1, .nil => .nil
  | _, _, n + 1, .cons _ r => RpA.drop n r
theorem RpA.at {vs : List V} {ds : List Dt} {i : Int} {d : Dt} (r : RpA K H vs ds) (h : atI ds i = some d) : ∃ v, atI vs i = some v ∧ Rp K H v d := by
  unfold atI at h ⊢
  rw [r.length]
  cases e : ixN ds.length i with
  | none => rw [e] at h; cases h
  | some j =>
    rw [e] at h
    exact r.get h
theorem RpA.ints : ∀ {vs : List V} {ns : List Int}, RpA K H vs (ns.map Dt.int) → vs = ns.map V.int
  | _, [], h => by cases h; rfl
  | _, n :: ns, h => by
    cases h with
    | cons h r =>
      rw [h.i, RpA.ints r]
      rfl
theorem RpA.of_ints : ∀ (ns : List Int), RpA K H (ns.map V.int) (ns.map Dt.int)
  | [] => .nil
  | n :: ns => .cons (.int n) (RpA.of_ints ns)
theorem RpA.strs : ∀ {vs : List V} {ns : List Str}, RpA K H vs (ns.map Dt.str) → vs = ns.map V.str
  | _, [], h => by cases h; rfl
  | _, n :: ns, h => by
    cases h with
    | cons h r =>
      rw [h.s, RpA.strs r]
      rfl
theorem RpA.of_strs : ∀ (ns : List Str), RpA K H (ns.map V.str) (ns.map Dt.str)
  | [] => .nil
  | n :: ns => .cons (.str n) (RpA.of_strs ns)
theorem RpA.bls : ∀ {vs : List V} {ns : List Bool}, RpA K H vs (ns.map Dt.bl) → vs = ns.map V.bl
  | _, [], h => by cases h; rfl
  | _, n :: ns, h => by
    cases h with
    | cons h r =>
      rw [h.b, RpA.bls r]
      rfl
/-- the value that a dict of data holds -/
def valD (ks : List (Key × Dt)) (k : Key) : Option Dt := (ks.find? fun kv => decide (kv.1 = k)).map (·.2)
def putD (kvs : List (Key × Dt)) (k : Key) (v : Dt) : List (Key × Dt) :=
  if kvs.any (fun kv => decide (kv.1 = k)) then kvs.map fun kv => if kv.1 = k then (kv.1, v) else kv else kvs ++ [(k, v)]
end

/-! ### heaps -/
/-- G of what stood, and all that is new -/
def xt (G H H2 : Hp) : Hp := fun b => match H b with
  | none => H2 b
  | some _ => G b
section
variable {G H H2 H3 : Hp}
theorem xt_new {b : Addr} (h : H b = none) : xt G H H2 b = H2 b := by unfold xt; rw [h]
theorem xt_old {b : Addr} {o : HO} (h : H b = some o) : xt G H H2 b = G b := by unfold xt; rw [h]
theorem xt_ge (e : Same G H) : Same G (xt G H H2) := fun b o h => by rw [xt_old (e b o h)]; exact h
theorem xt_le (e : Same G H) (f : Same H H2) : Same (xt G H H2) H2 := fun b o h => by
  cases q : H b with
  | none => rw [xt_new q] at h; exact h
  | some u =>
    rw [xt_old q] at h
    exact f b o (e b o h)
theorem xt_self (e : Same G H) : xt G H H = G := by
  funext b
  cases q : H b with
  | none =>
    rw [xt_new q, q]
    exact (e.free q).symm
  | some u => rw [xt_old q]
theorem xt_xt (f : Same H H2) (g : Same H2 H3) : xt (xt G H H2) H2 H3 = xt G H H3 := by
  funext b
  cases q : H b with
  | none =>
    rw [xt_new q]
    cases q2 : H2 b with
    | none => rw [xt_new q2]
    | some u => rw [xt_old q2, xt_new q, q2]; exact (g b u q2).symm
  | some u => rw [xt_old q, xt_old (f b u q), xt_old q]
theorem same_new {H : Hp} {p : Addr} {o : HO} (h : H p = none) : Same H (upd H p o) := fun b x e => by
  rw [upd_ne (ne_of_none e h)]
  exact e
end

/-! ### what is owned -/
inductive Ob where
  | lst (ds : List Dt) | dct (ds : List (Key × Dt)) | ins (C : Addr) (ds : List (Str × Dt))
def Ob.dt : Ob → Dt
  | .lst ds => .lst ds
  | .dct ds => .dct ds
  | .ins C ds => .ins C ds
/-- p's object stands in H, no part of G; its parts lie in G -/
def OwnOk (K : PySem.W.Frag) (G H : Hp) (p : Addr × Ob) : Prop := G p.1 = none ∧ match p.2 with
  | .lst ds => ∃ vs, H p.1 = some (.lst vs) ∧ RpA K G vs ds
  | .dct ds => ∃ ks, H p.1 = some (.dK ks) ∧ RpK K G ks ds
  | .ins C ds => ∃ dx fs, H p.1 = some (.ins C dx fs) ∧ RpF K G fs ds
theorem OwnOk.there {K : PySem.W.Frag} {G H : Hp} {p : Addr × Ob} (h : OwnOk K G H p) : ∃ o, H p.1 = some o := by
  obtain ⟨a, ob⟩ := p
  obtain ⟨_, h⟩ := h
  cases ob with
  | lst ds => obtain ⟨_, e, _⟩ := h; exact ⟨_, e⟩
  | dct ds => obtain ⟨_, e, _⟩ := h; exact ⟨_, e⟩
  | ins C ds => obtain ⟨_, _, e, _⟩ := h; exact ⟨_, e⟩
theorem OwnOk.mono {K : PySem.W.Frag} {G G' H H' : Hp} {p : Addr × Ob} (h : OwnOk K G H p) (e : Same G G') (n : G' p.1 = none) (f : H' p.1 = H p.1) : OwnOk K G' H' p := by
  obtain ⟨a, ob⟩ := p
  obtain ⟨_, h⟩ := h
  refine ⟨n, ?_⟩
  cases ob with
  | lst ds =>
    obtain ⟨vs, q, r⟩ := h
    exact ⟨vs, f.trans q, r.mono e⟩
  | dct ds =>
    obtain ⟨vs, q, r⟩ := h
    exact ⟨vs, f.trans q, r.mono e⟩
  | ins C ds =>
    obtain ⟨dx, fs, q, r⟩ := h
    exact ⟨dx, fs, f.trans q, r.mono e⟩
/-- G and what stands at a -/
def plus (G H : Hp) (a : Addr) : Hp := fun b => if b = a then H a else G b
theorem plus_ge {G H : Hp} {a : Addr} (n : G a = none) : Same G (plus G H a) := fun b o h => by
  unfold plus
  by_cases q : b = a
  · rw [q, n] at h; cases h
  · rw [if_neg q]; exact h
theorem plus_le {G H : Hp} {a : Addr} (e : Same G H) : Same (plus G H a) H := fun b o h => by
  unfold plus at h
  by_cases q : b = a
  · rw [if_pos q] at h; rw [q]; exact h
  · rw [if_neg q] at h; exact e b o h
theorem plus_at {G H : Hp} {a : Addr} : plus G H a a = H a := by unfold plus; rw [if_pos rfl]
theorem plus_ne {G H : Hp} {a b : Addr} (h : b ≠ a) : plus G H a b = G b := by unfold plus; rw [if_neg h]
theorem OwnOk.rp {K : PySem.W.Frag} {G H : Hp} {a : Addr} {ob : Ob} (h : OwnOk K G H (a, ob)) : Rp K (plus G H a) (.ref a) ob.dt := by
  obtain ⟨n, h⟩ := h
  have n : G a = none := n
  cases ob with
  | lst ds =>
    obtain ⟨vs, q, r⟩ := h
    have q : H a = some (.lst vs) := q
    exact .lst (SqL.of (by rw [plus_at]; exact q)) (r.mono (plus_ge n))
  | dct ds =>
    obtain ⟨vs, q, r⟩ := h
    have q : H a = some (.dK vs) := q
    exact .dct (.inl (by rw [plus_at]; exact q)) (r.mono (plus_ge n))
  | ins C ds =>
    obtain ⟨dx, fs, q, r⟩ := h
    have q : H a = some (.ins C dx fs) := q
    exact .ins (by rw [plus_at]; exact q) (r.mono (plus_ge n))

abbrev Ow := List (Addr × Ob)
abbrev Dn := List (Option Dt)
structure Wx (K : PySem.W.Frag) (ow : Ow) (dn : Dn) (G H : Hp) (σ : L2.St) : Prop where
  gh : Same G H
  en : ∀ (i : Nat) (d : Dt), dn[i]? = some (some d) → ∃ v, σ[i]? = some (some v) ∧ Rp K G v d
  len : σ.length = dn.length
  own : ∀ p ∈ ow, OwnOk K G H p
  nd : (ow.map (·.1)).Nodup
section
variable {K : PySem.W.Frag} {ow : Ow} {dn : Dn} {G H H2 : Hp} {σ : L2.St}
theorem Wx.ext (w : Wx K ow dn G H σ) (e : Same H H2) : Wx K ow dn (xt G H H2) H2 σ where
  gh := xt_le w.gh e
  en := fun i d h => by
    obtain ⟨v, q, r⟩ := w.en i d h
    exact ⟨v, q, r.mono (xt_ge w.gh)⟩
  len := w.len
  own := fun p hp => by
    have h := w.own p hp
    obtain ⟨o, q⟩ := h.there
    exact h.mono (xt_ge w.gh) (by rw [xt_old q]; exact h.1) (by rw [q]; exact e _ _ q)
  nd := w.nd
theorem Wx.set (w : Wx K ow dn G H σ) {i : Nat} {v : V} {d : Dt} (r : Rp K G v d) : Wx K ow (dn.set i (some d)) G H (σ.set i (some v)) where
  gh := w.gh
  en := fun j d' h => by
    by_cases e : i = j
    · subst e
      rw [List.getElem?_set] at h
      rw [if_pos rfl] at h
      split at h
      · rename_i hl
        have q := Option.some.inj (Option.some.inj h)
        subst q
        exact ⟨v, by rw [List.getElem?_set_self (by rw [w.len]; exact hl)], r⟩
      · cases h
    · rw [List.getElem?_set_ne e] at h
      rw [List.getElem?_set_ne e]
      exact w.en j d' h
  len := by rw [List.length_set, List.length_set]; exact w.len
  own := w.own
  nd := w.nd
/-- less is known of the slots -/
theorem Wx.less {dn' : Dn} (w : Wx K ow dn G H σ) (hl : dn'.length = dn.length) (h : ∀ (i : Nat) (d : Dt), dn'[i]? = some (some d) → dn[i]? = some (some d)) : Wx K ow dn' G H σ where
  gh := w.gh
  en := fun i d q => w.en i d (h i d q)
  len := w.len.trans hl.symm
  own := w.own
  nd := w.nd
end
end BW

set_option Elab.async false
set_option linter.all false
set_option maxRecDepth 100000
set_option maxHeartbeats 4000000
/-! BW2: pure evaluation of readings. -/
namespace BW
open PySem L2 PySem.Spec

section
variable (K : PySem.W.Frag) (ow : Ow) (dn : Dn)
/-- the reading gives the datum d, whatever stands besides -/
def Ed (te : TE) (d : Dt) : Prop := ∀ σ G H, Wx K ow dn G H σ → ∀ Q : VK, (∀ v H2, Same H H2 → Rp K (xt G H H2) v d → Q v H2) → te σ H Q
def Et (tt : TT) (b : Bool) : Prop := ∀ σ G H, Wx K ow dn G H σ → ∀ Q : Bool → Hp → Prop, (∀ H2, Same H H2 → Q b H2) → tt σ H Q
def Ea (ta : TA) (ds : List Dt) : Prop := ∀ σ G H, Wx K ow dn G H σ → ∀ Q : List V → Hp → Prop, (∀ vs H2, Same H H2 → RpA K (xt G H H2) vs ds → Q vs H2) → ta σ H Q
def Eo (to : TO) (o : Option Int) : Prop := ∀ σ G H, Wx K ow dn G H σ → ∀ Q : Option Int → Hp → Prop, (∀ H2, Same H H2 → Q o H2) → to σ H Q
/-- .. a new object, all its parts known -/
def En (te : TE) (ob : Ob) : Prop := ∀ σ G H, Wx K ow dn G H σ → ∀ Q : VK, (∀ p H2, Same H H2 → H p = none → ∀ G2, Same G G2 → Same G2 H2 → (∀ b o, G2 b = some o → G b = some o ∨ H b = none) → OwnOk K G2 H2 (p, ob) → Q (.ref p) H2) → te σ H Q
end
/-- by values -/
def Rv (K : PySem.W.Frag) (r : R2) (x y z : Dt) : Prop := ∀ G H, Same G H → ∀ v u, Rp K G v x → Rp K G u y → ∀ Q : VK, (∀ w H2, Same H H2 → Rp K (xt G H H2) w z → Q w H2) → r v u H Q
def Ru (K : PySem.W.Frag) (r : V → Hp → VK → Prop) (x z : Dt) : Prop := ∀ G H, Same G H → ∀ v, Rp K G v x → ∀ Q : VK, (∀ w H2, Same H H2 → Rp K (xt G H H2) w z → Q w H2) → r v H Q
def Rc (K : PySem.W.Frag) (r : List V → Hp → VK → Prop) (xs : List Dt) (z : Dt) : Prop := ∀ G H, Same G H → ∀ vs, RpA K G vs xs → ∀ Q : VK, (∀ w H2, Same H H2 → Rp K (xt G H H2) w z → Q w H2) → r vs H Q
def RcN (K : PySem.W.Frag) (r : List V → Hp → VK → Prop) (xs : List Dt) (ob : Ob) : Prop := ∀ G H, Same G H → ∀ vs, RpA K G vs xs → ∀ Q : VK, (∀ p H2, Same H H2 → H p = none → ∀ G2, Same G G2 → Same G2 H2 → (∀ b o, G2 b = some o → G b = some o ∨ H b = none) → OwnOk K G2 H2 (p, ob) → Q (.ref p) H2) → r vs H Q

section
variable {K : PySem.W.Frag} {ow : Ow} {dn : Dn} {ta tb tc te td : TE} {t u : TT} {x y z d e : Dt} {r r' : R2}

theorem xt_same {G H : Hp} (e : Same G H) {v : V} {d : Dt} (h : Rp K G v d) : Rp K (xt G H H) v d := by rw [xt_self e]; exact h
/-- a new object is data, too -/
theorem new_rp {G H G2 H2 : Hp} {p : Addr} {ob : Ob} (gh : Same G H) (e : Same H H2) (np : H p = none) (g2 : Same G2 H2) (f : ∀ b o, G2 b = some o → G b = some o ∨ H b = none) (o : OwnOk K G2 H2 (p, ob)) : Rp K (xt G H H2) (.ref p) ob.dt := by
  refine o.rp.mono fun b x h => ?_
  unfold plus at h
  by_cases q : b = p
  · subst q
    rw [if_pos rfl] at h
    rw [xt_new np]
    exact h
  · rw [if_neg q] at h
    rcases f b x h with k | k
    · rw [xt_old (gh b x k)]; exact k
    · rw [xt_new k]; exact g2 b x h
theorem En.ed {ob : Ob} (h : En K ow dn te ob) : Ed K ow dn te ob.dt := fun σ G H w Q q => h σ G H w Q fun p H2 e np G2 _ g2 f o => q _ H2 e (new_rp w.gh e np g2 f o)

theorem ed_var {i : Nat} (h : dn[i]? = some (some d)) : Ed K ow dn (tVar i) d := fun σ G H w Q q => by
  obtain ⟨v, e, r⟩ := w.en i d h
  exact ⟨v, e, q v H (Same.refl H) (xt_same w.gh r)⟩
theorem ed_c {v : V} (h : ∀ G, Rp K G v d) : Ed K ow dn (tC v) d := fun σ G H w Q q => q v H (Same.refl H) (h _)
theorem ed_int {i : Int} : Ed K ow dn (tC (.int i)) (.int i) := ed_c fun _ => .int i
theorem ed_str {i : Str} : Ed K ow dn (tC (.str i)) (.str i) := ed_c fun _ => .str i
theorem ed_bl {i : Bool} : Ed K ow dn (tC (.bl i)) (.bl i) := ed_c fun _ => .bl i
theorem ed_non : Ed K ow dn (tC .non) .non := ed_c fun _ => .non
theorem ed_ty {n : String} : Ed K ow dn (tC (.ty n)) (.ty n) := ed_c fun _ => .ty n
theorem ed_is (h : Ed K ow dn te d) (e' : d = e) : Ed K ow dn te e := by rw [← e']; exact h
theorem et_is {a b : Bool} (h : Et K ow dn t a) (e' : a = b) : Et K ow dn t b := by rw [← e']; exact h

/-- two readings, one behind the other -/
theorem ed_op (ha : Ed K ow dn ta x) (hb : Ed K ow dn tb y) (hr : Rv K r x y z) : Ed K ow dn (tOp r ta tb) z := fun σ G H w Q q =>
  ha σ G H w _ fun v H1 e1 r1 => hb σ _ H1 (w.ext e1) _ fun u H2 e2 r2 => by
    rw [xt_xt e1 e2] at r2
    have w2 := (w.ext e1).ext e2
    rw [xt_xt e1 e2] at w2
    have r1' : Rp K (xt G H H2) v x := by
      rw [← xt_xt (G := G) e1 e2]
      exact r1.mono (xt_ge (w.ext e1).gh)
    exact hr _ H2 w2.gh v u r1' r2 Q fun k H3 e3 r3 => q k H3 ((e1.trans e2).trans e3) (by rw [xt_xt (e1.trans e2) e3] at r3; exact r3)
theorem ed_un {r : V → Hp → VK → Prop} (ha : Ed K ow dn ta x) (hr : Ru K r x z) : Ed K ow dn (tUn r ta) z := fun σ G H w Q q =>
  ha σ G H w _ fun v H1 e1 r1 => hr _ H1 (w.ext e1).gh v r1 Q fun k H3 e3 r3 => q k H3 (e1.trans e3) (by rw [xt_xt e1 e3] at r3; exact r3)

theorem rv_I0 {g : Int → Int → V} {i j : Int} (h : ∀ G, Rp K G (g i j) z) : Rv K (rI0 g) (.int i) (.int j) z := fun G H e v u r1 r2 Q q =>
  ⟨i, j, r1.i, r2.i, q _ H (Same.refl H) (h _)⟩
theorem rv_I {C : Int → Int → Prop} {g : Int → Int → V} {i j : Int} (hc : C i j) (h : ∀ G, Rp K G (g i j) z) : Rv K (rI C g) (.int i) (.int j) z := fun G H e v u r1 r2 Q q =>
  ⟨i, j, r1.i, r2.i, hc, q _ H (Same.refl H) (h _)⟩
section
variable {i j : Int}
theorem ed_add (ha : Ed K ow dn ta (.int i)) (hb : Ed K ow dn tb (.int j)) : Ed K ow dn (tOp (rI0 fun i j => .int (i + j)) ta tb) (.int (i + j)) := ed_op ha hb (rv_I0 fun _ => .int _)
theorem ed_sub (ha : Ed K ow dn ta (.int i)) (hb : Ed K ow dn tb (.int j)) : Ed K ow dn (tOp (rI0 fun i j => .int (i - j)) ta tb) (.int (i - j)) := ed_op ha hb (rv_I0 fun _ => .int _)
theorem ed_mul (ha : Ed K ow dn ta (.int i)) (hb : Ed K ow dn tb (.int j)) (h : CMul i j) : Ed K ow dn (tOp (rI CMul fun i j => .int (i * j)) ta tb) (.int (i * j)) := ed_op ha hb (rv_I h fun _ => .int _)
theorem ed_mod (ha : Ed K ow dn ta (.int i)) (hb : Ed K ow dn tb (.int j)) (h : 0 < j) : Ed K ow dn (tOp (rI (fun _ j => 0 < j) fun i j => .int (i % j)) ta tb) (.int (i % j)) := ed_op ha hb (rv_I h fun _ => .int _)
theorem ed_div (ha : Ed K ow dn ta (.int i)) (hb : Ed K ow dn tb (.int j)) (h : CDiv i j) : Ed K ow dn (tOp (rI CDiv fun i j => .int (i / j)) ta tb) (.int (i / j)) := ed_op ha hb (rv_I h fun _ => .int _)
theorem ed_neg (ha : Ed K ow dn ta (.int i)) : Ed K ow dn (tUn (rU fun i => .int (-i)) ta) (.int (-i)) := ed_un ha fun G H e v r Q q => ⟨i, r.i, q _ H (Same.refl H) (.int _)⟩
theorem rv_lt : Rv K (rI0 fun i j => .bl (decide (i < j))) (.int i) (.int j) (.bl (decide (i < j))) := rv_I0 fun _ => .bl _
theorem rv_le : Rv K (rI0 fun i j => .bl (decide (i ≤ j))) (.int i) (.int j) (.bl (decide (i ≤ j))) := rv_I0 fun _ => .bl _
theorem rv_gt : Rv K (rI0 fun i j => .bl (decide (j < i))) (.int i) (.int j) (.bl (decide (j < i))) := rv_I0 fun _ => .bl _
theorem rv_ge : Rv K (rI0 fun i j => .bl (decide (j ≤ i))) (.int i) (.int j) (.bl (decide (j ≤ i))) := rv_I0 fun _ => .bl _
theorem ed_lt (ha : Ed K ow dn ta (.int i)) (hb : Ed K ow dn tb (.int j)) : Ed K ow dn (tOp (rI0 fun i j => .bl (decide (i < j))) ta tb) (.bl (decide (i < j))) := ed_op ha hb rv_lt
theorem ed_le (ha : Ed K ow dn ta (.int i)) (hb : Ed K ow dn tb (.int j)) : Ed K ow dn (tOp (rI0 fun i j => .bl (decide (i ≤ j))) ta tb) (.bl (decide (i ≤ j))) := ed_op ha hb rv_le
theorem ed_gt (ha : Ed K ow dn ta (.int i)) (hb : Ed K ow dn tb (.int j)) : Ed K ow dn (tOp (rI0 fun i j => .bl (decide (j < i))) ta tb) (.bl (decide (j < i))) := ed_op ha hb rv_gt
theorem ed_ge (ha : Ed K ow dn ta (.int i)) (hb : Ed K ow dn tb (.int j)) : Ed K ow dn (tOp (rI0 fun i j => .bl (decide (j ≤ i))) ta tb) (.bl (decide (j ≤ i))) := ed_op ha hb rv_ge
/-- == of scalars of one kind -/
theorem rv_eqI : Rv K rEq (.int i) (.int j) (.bl (decide (i = j))) := fun G H e v u r1 r2 Q q => by
  rw [r1.i, r2.i]
  refine ⟨rfl, q _ H (Same.refl H) ?_⟩
  rw [dec_int, Bool.beq_eq_decide_eq]
  exact .bl _
theorem rv_neI : Rv K rNe (.int i) (.int j) (.bl (!decide (i = j))) := fun G H e v u r1 r2 Q q => by
  rw [r1.i, r2.i]
  refine ⟨rfl, q _ H (Same.refl H) ?_⟩
  rw [dec_int, Bool.beq_eq_decide_eq]
  exact .bl _
theorem rv_eqS {i j : Str} : Rv K rEq (.str i) (.str j) (.bl (decide (i = j))) := fun G H e v u r1 r2 Q q => by
  rw [r1.s, r2.s]
  refine ⟨rfl, q _ H (Same.refl H) ?_⟩
  rw [show decide (V.str i = V.str j) = decide (i = j) from decide_eq_decide.mpr ⟨fun h => V.str.inj h, fun h => by rw [h]⟩]
  exact .bl _
theorem rv_neS {i j : Str} : Rv K rNe (.str i) (.str j) (.bl (!decide (i = j))) := fun G H e v u r1 r2 Q q => by
  rw [r1.s, r2.s]
  refine ⟨rfl, q _ H (Same.refl H) ?_⟩
  rw [show decide (V.str i = V.str j) = decide (i = j) from decide_eq_decide.mpr ⟨fun h => V.str.inj h, fun h => by rw [h]⟩]
  exact .bl _
theorem rv_eqB {i j : Bool} : Rv K rEq (.bl i) (.bl j) (.bl (i == j)) := fun G H e v u r1 r2 Q q => by
  rw [r1.b, r2.b]
  refine ⟨rfl, q _ H (Same.refl H) ?_⟩
  rw [dec_bl]
  exact .bl _
theorem rv_neB {i j : Bool} : Rv K rNe (.bl i) (.bl j) (.bl (i != j)) := fun G H e v u r1 r2 Q q => by
  rw [r1.b, r2.b]
  refine ⟨rfl, q _ H (Same.refl H) ?_⟩
  rw [dec_bl]
  exact .bl _
theorem ed_eq (ha : Ed K ow dn ta (.int i)) (hb : Ed K ow dn tb (.int j)) : Ed K ow dn (tOp rEq ta tb) (.bl (decide (i = j))) := ed_op ha hb rv_eqI
theorem ed_ne (ha : Ed K ow dn ta (.int i)) (hb : Ed K ow dn tb (.int j)) : Ed K ow dn (tOp rNe ta tb) (.bl (!decide (i = j))) := ed_op ha hb rv_neI
theorem ed_eqS {i j : Str} (ha : Ed K ow dn ta (.str i)) (hb : Ed K ow dn tb (.str j)) : Ed K ow dn (tOp rEq ta tb) (.bl (decide (i = j))) := ed_op ha hb rv_eqS
theorem ed_neS {i j : Str} (ha : Ed K ow dn ta (.str i)) (hb : Ed K ow dn tb (.str j)) : Ed K ow dn (tOp rNe ta tb) (.bl (!decide (i = j))) := ed_op ha hb rv_neS
theorem ed_eqB {i j : Bool} (ha : Ed K ow dn ta (.bl i)) (hb : Ed K ow dn tb (.bl j)) : Ed K ow dn (tOp rEq ta tb) (.bl (i == j)) := ed_op ha hb rv_eqB
theorem ed_neB {i j : Bool} (ha : Ed K ow dn ta (.bl i)) (hb : Ed K ow dn tb (.bl j)) : Ed K ow dn (tOp rNe ta tb) (.bl (i != j)) := ed_op ha hb rv_neB
end
/-- is None -/
def Dt.isN : Dt → Bool
  | .non => true
  | _ => false
theorem Rp.isN {H : Hp} {v : V} (h : Rp K H v d) : decide (v = .non) = d.isN := by
  cases h <;> first | rfl | exact decide_eq_false (fun q => nomatch q)
def rIsN : R2 := fun x y H Q => y = .non ∧ Q (.bl (decide (x = .non))) H
def rNotN : R2 := fun x y H Q => y = .non ∧ Q (.bl (!decide (x = .non))) H
theorem ed_isN (ha : Ed K ow dn ta x) (hb : Ed K ow dn tb .non) : Ed K ow dn (tOp (fun x y H Q => y = .non ∧ Q (.bl (decide (x = .non))) H) ta tb) (.bl x.isN) :=
  ed_op ha hb fun G H e v u r1 r2 Q q => ⟨r2.n, q _ H (Same.refl H) (by rw [r1.isN]; exact .bl _)⟩
theorem ed_notN (ha : Ed K ow dn ta x) (hb : Ed K ow dn tb .non) : Ed K ow dn (tOp (fun x y H Q => y = .non ∧ Q (.bl (!decide (x = .non))) H) ta tb) (.bl (!x.isN)) :=
  ed_op ha hb fun G H e v u r1 r2 Q q => ⟨r2.n, q _ H (Same.refl H) (by rw [r1.isN]; exact .bl _)⟩

/-! ### argument lists, displays -/
theorem ea_nil : Ea K ow dn tNil [] := fun σ G H w Q q => q [] H (Same.refl H) .nil
theorem ea_cons {tr : TA} {ds : List Dt} (h : Ed K ow dn ta x) (hr : Ea K ow dn tr ds) : Ea K ow dn (tCons ta tr) (x :: ds) := fun σ G H w Q q =>
  h σ G H w _ fun v H1 e1 r1 => hr σ _ H1 (w.ext e1) _ fun vs H2 e2 r2 => by
    have r1' := r1.mono (xt_ge (G := xt G H H1) (H := H1) (H2 := H2) (w.ext e1).gh)
    rw [xt_xt e1 e2] at r1' r2
    exact q _ H2 (e1.trans e2) (.cons r1' r2)
theorem sz_of {n : Nat} (h : n ≤ 1000000) : n ≤ sizeLine := Nat.le_trans h (by decide)
theorem sz_lt {n : Nat} (h : n < 1000000) : n < sizeLine := Nat.lt_of_lt_of_le h (by decide)
theorem en_lst {tr : TA} {ds : List Dt} (h : Ea K ow dn tr ds) (hl : ds.length ≤ 1000000) : En K ow dn (tLst tr) (.lst ds) := fun σ G H w Q q =>
  h σ G H w _ fun vs H1 e1 r1 => ⟨by rw [r1.length]; exact sz_of hl, fun p np => by
    have n0 := e1.free np
    refine q p _ (e1.trans (same_new np)) n0 (xt G H H1) (xt_ge w.gh) ((xt_le w.gh e1).trans (same_new np)) (fun b o h => ?_) ⟨?_, vs, upd_same, r1⟩
    · cases k : H b with
      | none => exact .inr rfl
      | some u => rw [xt_old k] at h; exact .inl h
    · show xt G H H1 p = none
      rw [xt_new n0]; exact np⟩
theorem ed_lst {tr : TA} {ds : List Dt} (h : Ea K ow dn tr ds) (hl : ds.length ≤ 1000000 := by exact Nat.le_of_ble_eq_true rfl) : Ed K ow dn (tLst tr) (.lst ds) := (en_lst h hl).ed
theorem ed_tup {tr : TA} {ds : List Dt} (h : Ea K ow dn tr ds) (hl : ds.length ≤ 1000000 := by exact Nat.le_of_ble_eq_true rfl) : Ed K ow dn (tTup tr) (.tup ds) := fun σ G H w Q q =>
  h σ G H w _ fun vs H1 e1 r1 => ⟨by rw [r1.length]; exact sz_of hl, fun p np => by
    have n0 := e1.free np
    refine q _ _ (e1.trans (same_new np)) (.tup (vs := vs) (SqT.of ?_) (r1.mono ?_))
    · rw [xt_new n0]; exact upd_same
    · rw [← xt_xt (G := G) e1 (same_new np)]
      exact xt_ge (xt_le w.gh e1)⟩

/-! ### subscripts -/
theorem rv_ixL {ds : List Dt} {i : Int} (h : atI ds i = some d) : Rv K (rIxL K) (.lst ds) (.int i) d := fun G H e v u r1 r2 Q q => by
  obtain ⟨a, vs, rfl, hs, ra⟩ := r1.L
  obtain ⟨w', hw, rw'⟩ := ra.at h
  exact ⟨a, vs, i, w', rfl, r2.i, e.seq hs, hw, q _ H (Same.refl H) (xt_same e rw')⟩
theorem rv_ixT {ds : List Dt} {i : Int} (h : atI ds i = some d) : Rv K (rIxT K) (.tup ds) (.int i) d := fun G H e v u r1 r2 Q q => by
  obtain ⟨a, vs, rfl, hs, ra⟩ := r1.T
  obtain ⟨w', hw, rw'⟩ := ra.at h
  exact ⟨a, vs, i, w', rfl, r2.i, same_t e hs, hw, q _ H (Same.refl H) (xt_same e rw')⟩
theorem ed_ixL {ds : List Dt} {i : Int} (ha : Ed K ow dn ta (.lst ds)) (hb : Ed K ow dn tb (.int i)) (h : atI ds i = some d) : Ed K ow dn (tOp (rIxL K) ta tb) d := ed_op ha hb (rv_ixL h)
theorem ed_ixT {ds : List Dt} {i : Int} (ha : Ed K ow dn ta (.tup ds)) (hb : Ed K ow dn tb (.int i)) (h : atI ds i = some d) : Ed K ow dn (tOp (rIxT K) ta tb) d := ed_op ha hb (rv_ixT h)
theorem ed_ixS {z : Str} {c : Nat} {i : Int} (ha : Ed K ow dn ta (.str z)) (hb : Ed K ow dn tb (.int i)) (hl : z.length ≤ 1000000) (h : atI z.cps.toList i = some c) : Ed K ow dn (tOp rIxS ta tb) (.str ⟨#[c]⟩) :=
  ed_op ha hb fun G H e v u r1 r2 Q q => ⟨z, i, c, r1.s, r2.i, sz_of hl, h, q _ H (Same.refl H) (.str _)⟩
/-- list, tuple or text -/
theorem ed_ixL' {ds : List Dt} {i : Int} (ha : Ed K ow dn ta (.lst ds)) (hb : Ed K ow dn tb (.int i)) (h : atI ds i = some d) : Ed K ow dn (tOp (rIx K) ta tb) d := ed_op ha hb fun G H e v u r1 r2 Q q => .inl (rv_ixL h G H e v u r1 r2 Q q)
theorem ed_ixT' {ds : List Dt} {i : Int} (ha : Ed K ow dn ta (.tup ds)) (hb : Ed K ow dn tb (.int i)) (h : atI ds i = some d) : Ed K ow dn (tOp (rIx K) ta tb) d := ed_op ha hb fun G H e v u r1 r2 Q q => .inr (.inl (rv_ixT h G H e v u r1 r2 Q q))

/-! ### slices -/
theorem eo_none : Eo K ow dn tNoPart none := fun σ G H w Q q => q H (Same.refl H)
theorem eo_some {i : Int} (h : Ed K ow dn ta (.int i)) : Eo K ow dn (tPart ta) (some i) := fun σ G H w Q q => h σ G H w _ fun v H2 e r => ⟨i, r.i, q H2 e⟩
def cutD (xs : List Dt) (lo hi : Option Int) : List Dt := (xs.drop (HT.sIx xs.length 0 lo)).take (HT.sIx xs.length xs.length hi - HT.sIx xs.length 0 lo)
theorem RpA.cut {H : Hp} {vs : List V} {ds : List Dt} (r : RpA K H vs ds) (lo hi : Option Int) : RpA K H (cutV vs lo hi) (cutD ds lo hi) := by
  unfold cutV cutD
  rw [r.length]
  exact (r.drop _).take _
theorem en_slL {ds : List Dt} {tl th : TO} {lo hi : Option Int} (h : Ed K ow dn te (.lst ds)) (h1 : Eo K ow dn tl lo) (h2 : Eo K ow dn th hi) : En K ow dn (tSl (rSlL K) te tl th) (.lst (cutD ds lo hi)) := fun σ G H w Q q =>
  h σ G H w _ fun v H1 e1 r1 => h1 σ _ H1 (w.ext e1) _ fun H2 e2 => by
    have w2 := (w.ext e1).ext e2
    rw [xt_xt e1 e2] at w2
    refine h2 σ _ H2 w2 _ fun H3 e3 => ?_
    obtain ⟨a, vs, rfl, hs, ra⟩ := r1.L
    have e13 := e2.trans e3
    have g1 : Same (xt G H H1) (xt G H H3) := by
      rw [← xt_xt (G := G) e1 e13]
      exact xt_ge (w.ext e1).gh
    refine ⟨a, vs, rfl, (xt_le w.gh (e1.trans e13)).seq (g1.seq hs), fun p np => ?_⟩
    have n0 := (e1.trans e13).free np
    refine q p _ ((e1.trans e13).trans (same_new np)) n0 (xt G H H3) (xt_ge w.gh) ((xt_le w.gh (e1.trans e13)).trans (same_new np)) (fun b o h => ?_) ⟨?_, _, upd_same, (ra.mono g1).cut lo hi⟩
    · cases k : H b with
      | none => exact .inr rfl
      | some u => rw [xt_old k] at h; exact .inl h
    · show xt G H H3 p = none
      rw [xt_new n0]; exact np
theorem ed_slL {ds : List Dt} {tl th : TO} {lo hi : Option Int} (h : Ed K ow dn te (.lst ds)) (h1 : Eo K ow dn tl lo) (h2 : Eo K ow dn th hi) : Ed K ow dn (tSl (rSlL K) te tl th) (.lst (cutD ds lo hi)) := (en_slL h h1 h2).ed

/-! ### tests -/
theorem et_test {b : Bool} (h : Ed K ow dn te (.bl b)) : Et K ow dn (tTest te) b := fun σ G H w Q q => h σ G H w _ fun v H2 e r => ⟨b, r.b, q H2 e⟩
theorem et_B {b : Bool} (h : Ed K ow dn te (.bl b)) : Et K ow dn (tB te) b := fun σ G H w Q q => h σ G H w _ fun v H2 e r => ⟨b, r.b, q H2 e⟩
theorem et_not {b : Bool} (h : Et K ow dn t b) : Et K ow dn (tNot t) (!b) := fun σ G H w Q q => h σ G H w _ fun H2 e => q H2 e
theorem et_and {a b : Bool} (h1 : Et K ow dn t a) (h2 : a = true → Et K ow dn u b) : Et K ow dn (tAnd t u) (a && b) := fun σ G H w Q q => h1 σ G H w _ fun H1 e1 => by
  cases a with
  | true => exact iteT (h2 rfl σ _ H1 (w.ext e1) _ fun H2 e2 => q H2 (e1.trans e2))
  | false => exact iteF (q H1 e1)
theorem et_or {a b : Bool} (h1 : Et K ow dn t a) (h2 : a = false → Et K ow dn u b) : Et K ow dn (tOr t u) (a || b) := fun σ G H w Q q => h1 σ G H w _ fun H1 e1 => by
  cases a with
  | true => exact iteT (q H1 e1)
  | false => exact iteF (h2 rfl σ _ H1 (w.ext e1) _ fun H2 e2 => q H2 (e1.trans e2))
theorem ed_andV {a b : Bool} (h1 : Ed K ow dn ta (.bl a)) (h2 : a = true → Ed K ow dn tb (.bl b)) : Ed K ow dn (tAndV ta tb) (.bl (a && b)) := fun σ G H w Q q => h1 σ G H w _ fun v H1 e1 r1 => ⟨a, r1.b, by
  cases a with
  | true => exact iteT (h2 rfl σ _ H1 (w.ext e1) _ fun u H2 e2 r2 => q u H2 (e1.trans e2) (r2.sc rfl))
  | false => exact iteF (q _ H1 e1 (.bl _))⟩
theorem ed_orV {a b : Bool} (h1 : Ed K ow dn ta (.bl a)) (h2 : a = false → Ed K ow dn tb (.bl b)) : Ed K ow dn (tOrV ta tb) (.bl (a || b)) := fun σ G H w Q q => h1 σ G H w _ fun v H1 e1 r1 => ⟨a, r1.b, by
  cases a with
  | true => exact iteT (q _ H1 e1 (.bl _))
  | false => exact iteF (h2 rfl σ _ H1 (w.ext e1) _ fun u H2 e2 r2 => q u H2 (e1.trans e2) (r2.sc rfl))⟩
theorem ed_notV {a : Bool} (h1 : Ed K ow dn ta (.bl a)) : Ed K ow dn (tNotV ta) (.bl (!a)) := fun σ G H w Q q => h1 σ G H w _ fun v H1 e1 r1 => ⟨a, r1.b, q _ H1 e1 (.bl _)⟩
theorem ed_if {b : Bool} (h : Et K ow dn t b) (h1 : b = true → Ed K ow dn ta d) (h2 : b = false → Ed K ow dn tb d) : Ed K ow dn (tIf t ta tb) d := fun σ G H w Q q => h σ G H w _ fun H1 e1 => by
  cases b with
  | true => exact iteT (h1 rfl σ _ H1 (w.ext e1) _ fun u H2 e2 r2 => q u H2 (e1.trans e2) (by rw [xt_xt e1 e2] at r2; exact r2))
  | false => exact iteF (h2 rfl σ _ H1 (w.ext e1) _ fun u H2 e2 r2 => q u H2 (e1.trans e2) (by rw [xt_xt e1 e2] at r2; exact r2))
theorem ed_chain {a b : Bool} (ha : Ed K ow dn ta x) (hb : Ed K ow dn tb y) (hc : a = true → Ed K ow dn tc z) (h1 : Rv K r x y (.bl a)) (h2 : a = true → Rv K r' y z (.bl b)) : Ed K ow dn (tChain r r' ta tb tc) (.bl (a && b)) := fun σ G H w Q q =>
  ha σ G H w _ fun v H1 e1 r1 => hb σ _ H1 (w.ext e1) _ fun u H2 e2 r2 => by
    rw [xt_xt e1 e2] at r2
    have w2 := (w.ext e1).ext e2
    rw [xt_xt e1 e2] at w2
    have r1' : Rp K (xt G H H2) v x := by
      rw [← xt_xt (G := G) e1 e2]
      exact r1.mono (xt_ge (w.ext e1).gh)
    refine h1 _ H2 w2.gh v u r1' r2 _ fun k H3 e3 r3 => ⟨a, r3.b, ?_⟩
    cases a with
    | false => exact iteF (q _ H3 ((e1.trans e2).trans e3) (.bl _))
    | true =>
      have w3 := w2.ext e3
      rw [xt_xt (e1.trans e2) e3] at w3
      refine iteT (hc rfl σ _ H3 w3 _ fun c H4 e4 r4 => ?_)
      have e34 := e3.trans e4
      have e4' := (e1.trans e2).trans e3
      rw [xt_xt e4' e4] at r4
      have w4 := w3.ext e4
      rw [xt_xt e4' e4] at w4
      have r2' : Rp K (xt G H H4) u y := by
        rw [← xt_xt (G := G) (e1.trans e2) e34]
        exact r2.mono (xt_ge w2.gh)
      exact h2 rfl _ H4 w4.gh u c r2' r4 Q fun m H5 e5 r5 => q m H5 (e4'.trans (e4.trans e5)) (r5.sc rfl)

/-! ### built-in calls -/
theorem ed_cb {rc : List V → Hp → VK → Prop} {tr : TA} {ds : List Dt} (h : Ea K ow dn tr ds) (hr : Rc K rc ds z) : Ed K ow dn (tCB rc tr) z := fun σ G H w Q q =>
  h σ G H w _ fun vs H1 e1 r1 => hr _ H1 (w.ext e1).gh vs r1 Q fun k H3 e3 r3 => q k H3 (e1.trans e3) (by rw [xt_xt e1 e3] at r3; exact r3)
theorem en_cb {rc : List V → Hp → VK → Prop} {tr : TA} {ds : List Dt} {ob : Ob} (h : Ea K ow dn tr ds) (hr : RcN K rc ds ob) : En K ow dn (tCB rc tr) ob := fun σ G H w Q q =>
  h σ G H w _ fun vs H1 e1 r1 => hr _ H1 (w.ext e1).gh vs r1 Q fun p H3 e3 np G2 g1 g2 f o => q p H3 (e1.trans e3) (e1.free np) G2 ((xt_ge w.gh).trans g1) g2 (fun b o h => by
    rcases f b o h with k | k
    · cases hb : H b with
      | none => exact .inr rfl
      | some u => rw [xt_old hb] at k; exact .inl k
    · exact .inr (e1.free k)) o
theorem RpA.one {G : Hp} {vs : List V} (h : RpA K G vs [x]) : ∃ v, vs = [v] ∧ Rp K G v x := by
  cases h with
  | cons h r => cases r; exact ⟨_, rfl, h⟩
theorem RpA.two {G : Hp} {vs : List V} (h : RpA K G vs [x, y]) : ∃ v u, vs = [v, u] ∧ Rp K G v x ∧ Rp K G u y := by
  cases h with
  | cons h r =>
    obtain ⟨u, rfl, h2⟩ := RpA.one r
    exact ⟨_, u, rfl, h, h2⟩
theorem if_max (i j : Int) : (if j > i then j else i) = max i j := by
  rw [Int.max_def]
  split <;> split <;> omega
theorem if_min (i j : Int) : (if j < i then j else i) = min i j := by
  rw [Int.min_def]
  split <;> split <;> omega
theorem ed_max2 {i j : Int} {tr : TA} (h : Ea K ow dn tr [.int i, .int j]) : Ed K ow dn (tCB (fun xs H Q => ∃ i j, xs = [.int i, .int j] ∧ Q (.int (if j > i then j else i)) H) tr) (.int (max i j)) := ed_cb h fun G H e vs r Q q => by
  obtain ⟨v, u, rfl, r1, r2⟩ := r.two
  refine ⟨i, j, by rw [r1.i, r2.i], ?_⟩
  rw [if_max]
  exact q _ H (Same.refl H) (.int _)
theorem ed_min2 {i j : Int} {tr : TA} (h : Ea K ow dn tr [.int i, .int j]) : Ed K ow dn (tCB (fun xs H Q => ∃ i j, xs = [.int i, .int j] ∧ Q (.int (if j < i then j else i)) H) tr) (.int (min i j)) := ed_cb h fun G H e vs r Q q => by
  obtain ⟨v, u, rfl, r1, r2⟩ := r.two
  refine ⟨i, j, by rw [r1.i, r2.i], ?_⟩
  rw [if_min]
  exact q _ H (Same.refl H) (.int _)
def rLenS (K : PySem.W.Frag) : List V → Hp → VK → Prop := fun xs H Q => ∃ p ys, xs = [.ref p] ∧ (SqL K H p ys ∨ SqT K H p ys) ∧ Q (.int ys.length) H
theorem ed_lenL {ds : List Dt} {tr : TA} (h : Ea K ow dn tr [.lst ds]) : Ed K ow dn (tCB (fun xs H Q => ∃ p ys, xs = [.ref p] ∧ (SqL K H p ys ∨ SqT K H p ys) ∧ Q (.int ys.length) H) tr) (.int ds.length) := ed_cb h fun G H e vs r Q q => by
  obtain ⟨v, rfl, r1⟩ := r.one
  obtain ⟨a, us, rfl, hs, ra⟩ := r1.L
  refine ⟨a, us, rfl, .inl (e.seq hs), ?_⟩
  rw [ra.length]
  exact q _ H (Same.refl H) (.int _)
theorem ed_lenT {ds : List Dt} {tr : TA} (h : Ea K ow dn tr [.tup ds]) : Ed K ow dn (tCB (fun xs H Q => ∃ p ys, xs = [.ref p] ∧ (SqL K H p ys ∨ SqT K H p ys) ∧ Q (.int ys.length) H) tr) (.int ds.length) := ed_cb h fun G H e vs r Q q => by
  obtain ⟨v, rfl, r1⟩ := r.one
  obtain ⟨a, us, rfl, hs, ra⟩ := r1.T
  refine ⟨a, us, rfl, .inr (same_t e hs), ?_⟩
  rw [ra.length]
  exact q _ H (Same.refl H) (.int _)

/-! ### isinstance -/
def Dt.tn : Dt → String
  | .non => "NoneType"
  | .bl _ => "bool"
  | .int _ => "int"
  | .str _ => "str"
  | .tup _ => "tuple"
  | .lst _ => "list"
  | .dct _ => "dict"
  | _ => "?"
def Dt.isT (d : Dt) (n : String) : Bool := d.tn == n || (d.tn == "bool" && n == "int")
def Dt.pl : Dt → Bool
  | .non | .bl _ | .int _ | .str _ | .tup _ | .lst _ | .dct _ => true
  | _ => false
theorem tyX_of {H : Hp} {v : V} (h : Rp K H v d) (p : d.pl = true) : TyX K H v (.type d.tn) := by
  cases h with
  | non => exact .base .non
  | bl b => exact .base (.bl b)
  | int i => exact .base (.int i)
  | str x => exact .base (.str x)
  | ty n => cases p
  | adr a => cases p
  | tup h r =>
    rcases h with (h | ⟨o, h⟩) | ⟨o, its, n, h1, h2, _⟩
    · exact .base (.tup h)
    · exact .fTuple h
    · exact .kTuple h1 h2
  | lst h r =>
    rcases h with (h | ⟨o, h⟩) | ⟨o, its, n, h1, h2, _⟩
    · exact .base (.lst h)
    · exact .base (.frz h)
    · exact .kList h1 h2
  | dct h r =>
    rcases h with h | ⟨o, h⟩
    · exact .base (.dK h)
    · exact .fDict h
  | ins h r => cases p
theorem kit_tab : ∀ a ∈ ["NoneType", "bool", "int", "str", "tuple", "list", "dict"], ∀ b ∈ ["int", "bool", "str", "tuple", "list", "dict"], kitB a b = some (a == b || (a == "bool" && b == "int")) := by decide +kernel
theorem kit_dt {n : String} (p : d.pl = true) (hn : n ∈ ["int", "bool", "str", "tuple", "list", "dict"]) : PySem.W.kitOne K (.type d.tn) (.type n) = some (d.isT n) := by
  refine kit_ty (kit_tab d.tn ?_ n hn)
  cases d <;> first | (simp [Dt.tn]; done) | (simp [Dt.pl] at p; done)
theorem ed_isi {n : String} {tr : TA} (h : Ea K ow dn tr [x, .ty n]) (p : x.pl = true) (hn : n ∈ ["int", "bool", "str", "tuple", "list", "dict"] := by decide) : Ed K ow dn (tCB (rIsi K) tr) (.bl (x.isT n)) := ed_cb h fun G H e vs r Q q => by
  obtain ⟨v, u, rfl, r1, r2⟩ := r.two
  rw [r2.t]
  exact ⟨v, .ty n, _, _, _, rfl, .ty n, tyX_of (r1.mono e) p, kit_dt p hn, q _ H (Same.refl H) (.bl _)⟩
end
end BW

set_option Elab.async false
set_option linter.all false
set_option maxRecDepth 100000
set_option maxHeartbeats 4000000
/-! BW3: promises of pure defs, statements. -/
namespace BW
open PySem L2 PySem.Spec PyProof.Rows

/-- all but M as it was -/
def SamX (M : List Addr) (H0 H : Hp) : Prop := (∀ b o, b ∉ M → H0 b = some o → H b = some o) ∧ ∀ b o, H0 b = some o → ∃ o', H b = some o'
theorem SamX.same {H0 H : Hp} (h : SamX [] H0 H) : Same H0 H := fun b o e => h.1 b o (by simp) e
theorem SamX.of {M : List Addr} {H0 H : Hp} (h : Same H0 H) : SamX M H0 H := ⟨fun b o _ e => h b o e, fun b o e => ⟨o, h b o e⟩⟩
theorem SamX.trans {M : List Addr} {H0 H H2 : Hp} (h : SamX M H0 H) (e : Same H H2) : SamX M H0 H2 := ⟨fun b o n q => e b o (h.1 b o n q), fun b o q => by
  obtain ⟨o', q'⟩ := h.2 b o q
  exact ⟨o', e b o' q'⟩⟩
theorem SamX.free {M : List Addr} {H0 H : Hp} (h : SamX M H0 H) {b : Addr} (n : H b = none) : H0 b = none := by
  cases q : H0 b with
  | none => rfl
  | some o =>
    obtain ⟨o', e⟩ := h.2 b o q
    rw [n] at e
    cases e

/-- the promise of a pure def: R says the result of the arguments -/
def SpR (K : PySem.W.Frag) (R : List Dt → Dt → Prop) : Sp := fun vs H Q _ => ∃ G ds d, Same G H ∧ RpA K G vs ds ∧ R ds d ∧ ∀ v H', SamX [] H H' → Rp K (xt G H H') v d → Q v H'

/-- where a def stands: what it may change, what stays known, what stood at its entry -/
structure Fr where
  M : List Addr
  B : Hp
  G0 : Hp
  H0 : Hp
abbrev Fr.to (F : Fr) (B : Hp) : Fr := { F with B := B }
structure Wd (K : PySem.W.Frag) (F : Fr) (ow : Ow) (dn : Dn) (G H : Hp) (σ : L2.St) : Prop where
  wx : Wx K ow dn G H σ
  hh : SamX F.M F.H0 H
  fp : ∀ b o, G b = some o → F.G0 b = some o ∨ F.H0 b = none
  fr : ∀ p ∈ ow, F.H0 p.1 = none ∨ p.1 ∈ F.M
  sb : Same F.B G

section
variable {K : PySem.W.Frag} {F : Fr} {ow : Ow} {dn : Dn} {G H H2 : Hp} {σ : L2.St} {d : Dt} {te ta tb : TE} {tt : TT} {D : Ends} {t u : TS}
theorem Wd.ext (w : Wd K F ow dn G H σ) (e : Same H H2) : Wd K F ow dn (xt G H H2) H2 σ where
  wx := w.wx.ext e
  hh := w.hh.trans e
  fp := fun b o h => by
    cases q : H b with
    | none => exact .inr (w.hh.free q)
    | some x => rw [xt_old q] at h; exact w.fp b o h
  fr := w.fr
  sb := w.sb.trans (xt_ge w.wx.gh)
theorem Wd.set (w : Wd K F ow dn G H σ) {i : Nat} {v : V} {d : Dt} (r : Rp K G v d) : Wd K F ow (dn.set i (some d)) G H (σ.set i (some v)) := ⟨w.wx.set r, w.hh, w.fp, w.fr, w.sb⟩
theorem Wd.less {dn' : Dn} (w : Wd K F ow dn G H σ) (hl : dn'.length = dn.length) (h : ∀ (i : Nat) (d : Dt), dn'[i]? = some (some d) → dn[i]? = some (some d)) : Wd K F ow dn' G H σ := ⟨w.wx.less hl h, w.hh, w.fp, w.fr, w.sb⟩
/-- another stable base -/
theorem Wd.base (w : Wd K F ow dn G H σ) {B : Hp} (s : Same B G) : Wd K (F.to B) ow dn G H σ := ⟨w.wx, w.hh, w.fp, w.fr, s⟩
theorem Wd.back {B : Hp} (w : Wd K (F.to B) ow dn G H σ) (s : Same F.B B) : Wd K F ow dn G H σ := ⟨w.wx, w.hh, w.fp, w.fr, s.trans w.sb⟩
/-- what is known here is known to who asked -/
theorem Wd.out (w : Wd K F ow dn G H σ) : Same G (xt F.G0 F.H0 H) := fun b o h => by
  rcases w.fp b o h with k | k
  · cases q : F.H0 b with
    | none => rw [xt_new q]; exact w.wx.gh b o h
    | some u => rw [xt_old q]; exact k
  · rw [xt_new k]; exact w.wx.gh b o h

/-! ### the def's entry, its calls -/
def fr0 (G H : Hp) : Fr := ⟨[], G, G, H⟩
theorem w_start {N : List Str} {vs : List V} {ds : List Dt} {n : Nat} (gh : Same G H) (r : RpA K G vs ds) (hN : N.length = ds.length + n) (hd : dn = ds.map some ++ List.replicate n none) : Wd K (fr0 G H) [] dn G H (L2.start N vs) := by
  subst hd
  refine ⟨⟨gh, fun i d h => ?_, ?_, fun _ h => (List.not_mem_nil h).elim, List.nodup_nil⟩, SamX.of (Same.refl H), fun b o h => .inl h, fun _ h => (List.not_mem_nil h).elim, Same.refl G⟩
  · unfold L2.start
    by_cases hi : i < ds.length
    · rw [List.getElem?_append_left (by simpa using hi), List.getElem?_map] at h
      cases e : ds[i]? with
      | none => rw [e] at h; cases h
      | some d' =>
        rw [e] at h
        have q : d' = d := Option.some.inj (Option.some.inj h)
        subst q
        obtain ⟨v, hv, rv⟩ := r.get e
        refine ⟨v, ?_, rv⟩
        rw [List.getElem?_append_left (by rw [List.length_map, r.length]; exact hi), List.getElem?_map, hv]
        rfl
    · rw [List.getElem?_append_right (by simpa using hi), List.getElem?_replicate] at h
      split at h <;> cases h
  · unfold L2.start
    rw [List.length_append, List.length_append, List.length_map, List.length_map, List.length_replicate, List.length_replicate, r.length, hN]
    omega
theorem ok_R {P : Program} {w : World} {mg : Str → Option Value} {base : Heap} {x qual : Str} {st : Stmt} {f : Addr} {fd : FuncData} {N ps : List Str} {k : Nat} {R : List Dt → Dt → Prop} (F : Fun K x qual st f fd) (S : FnScope N ps (defScope st))
    (hlen : ∀ ds d, R ds d → ds.length = ps.length)
    (hbody : ∀ (cdv : Value) (A : Around) (outer : List Env) (s : Shared) (H : Hp) (E : XK), Room k (A.deeper (envOfC qual (defScope st) s.heap.objs.size f cdv)) →
      ∃ t, PSs (cxOf CX0 P w K mg base N qual (defScope st) f cdv A outer s H E).nox (defBody st) t ∧ ∀ G vs ds d (Q : VK), R ds d → Same G H → RpA K G vs ds → (∀ v H', SamX [] H H' → Rp K (xt G H H') v d → Q v H') → t { nx := fun _ H' => Q .non H', rt := Q } (L2.start N vs) H) :
    FnOk P w K mg base CX0 (k + 1) f fd ps (SpR K R) := by
  refine F.ok S (fun vs H Q E h => ?_) (fun cdv A outer s H vs Q E hr h => ?_)
  · obtain ⟨G, ds, d, _, r, hR, _⟩ := h
    rw [r.length]
    exact hlen ds d hR
  · obtain ⟨G, ds, d, gh, r, hR, q⟩ := h
    obtain ⟨t, ht, hq⟩ := hbody cdv A outer s H E hr
    exact ⟨t, ht, hq G vs ds d Q hR gh r q⟩
theorem ed_call {R : List Dt → Dt → Prop} {E : XK} {tr : TA} {ds : List Dt} (h : Ea K ow dn tr ds) (hr : R ds d) : Ed K ow dn (tCall (SpR K R) [] E tr) d := fun σ G H w Q q =>
  h σ G H w _ fun vs H1 e1 r1 => by
    rw [List.append_nil]
    exact ⟨_, ds, d, (w.ext e1).gh, r1, hr, fun v H' s r => q v H' (e1.trans s.same) (by rw [xt_xt e1 s.same] at r; exact r)⟩

/-! ### statements -/
theorem x_set {i : Nat} (w : Wd K F ow dn G H σ) (h : Ed K ow dn te d) (k : ∀ v H', Wd K F ow (dn.set i (some d)) (xt G H H') H' (σ.set i (some v)) → D.nx (σ.set i (some v)) H') : tAsg te (gName i) D σ H :=
  h σ G H w.wx _ fun v H' e r => k v H' ((w.ext e).set r)
theorem x_ret (w : Wd K F ow dn G H σ) (h : Ed K ow dn te d) (q : ∀ v H', SamX F.M F.H0 H' → Rp K (xt F.G0 F.H0 H') v d → D.rt v H') : tRet te D σ H :=
  h σ G H w.wx _ fun v H' e r => q v H' (w.hh.trans e) (r.mono (w.ext e).out)
theorem x_retN (w : Wd K F ow dn G H σ) (q : ∀ v H', SamX F.M F.H0 H' → Rp K (xt F.G0 F.H0 H') v .non → D.rt v H') : tRetN D σ H := q _ H w.hh .non
theorem x_if {b : Bool} (w : Wd K F ow dn G H σ) (h : Et K ow dn tt b) (k1 : b = true → ∀ H', Wd K F ow dn (xt G H H') H' σ → t D σ H') (k2 : b = false → ∀ H', Wd K F ow dn (xt G H H') H' σ → u D σ H') : tIfS tt t u D σ H :=
  h σ G H w.wx _ fun H' e => by
    cases b with
    | true => exact iteT (k1 rfl H' (w.ext e))
    | false => exact iteF (k2 rfl H' (w.ext e))
theorem x_ifT {b : Bool} (w : Wd K F ow dn G H σ) (h : Et K ow dn tt b) (e : b = true) (k : ∀ H', Wd K F ow dn (xt G H H') H' σ → t D σ H') : tIfS tt t u D σ H :=
  x_if w h (fun _ => k) fun hb => absurd (e.symm.trans hb) (by decide)
theorem x_ifF {b : Bool} (w : Wd K F ow dn G H σ) (h : Et K ow dn tt b) (e : b = false) (k : ∀ H', Wd K F ow dn (xt G H H') H' σ → u D σ H') : tIfS tt t u D σ H :=
  x_if w h (fun hb => absurd (e.symm.trans hb) (by decide)) fun _ => k
/-- if without else -/
def tIf0 (c : TT) (t : TS) : TS := fun D σ H => c σ H fun b H1 => if b = true then t D σ H1 else D.nx σ H1
theorem ps_if0 {X : Cx} {c : Expr} {a : List Stmt} {tc : TT} {pos : Pos} (hc : PT X c tc) (ha : PSs X a t) : PS X (.If c a [] pos) (tIf0 tc t) := ps_if hc ha pss_nil
theorem x_if0 {b : Bool} (w : Wd K F ow dn G H σ) (h : Et K ow dn tt b) (k1 : b = true → ∀ H', Wd K F ow dn (xt G H H') H' σ → t D σ H') (k2 : b = false → ∀ H', Wd K F ow dn (xt G H H') H' σ → D.nx σ H') : tIf0 tt t D σ H :=
  h σ G H w.wx _ fun H' e => by
    cases b with
    | true => exact iteT (k1 rfl H' (w.ext e))
    | false => exact iteF (k2 rfl H' (w.ext e))
theorem x_if0T {b : Bool} (w : Wd K F ow dn G H σ) (h : Et K ow dn tt b) (e : b = true) (k : ∀ H', Wd K F ow dn (xt G H H') H' σ → t D σ H') : tIf0 tt t D σ H :=
  x_if0 w h (fun _ => k) fun hb => absurd (e.symm.trans hb) (by decide)
theorem x_if0F {b : Bool} (w : Wd K F ow dn G H σ) (h : Et K ow dn tt b) (e : b = false) (k : ∀ H', Wd K F ow dn (xt G H H') H' σ → D.nx σ H') : tIf0 tt t D σ H :=
  x_if0 w h (fun hb => absurd (e.symm.trans hb) (by decide)) fun _ => k
theorem x_drop (w : Wd K F ow dn G H σ) (h : Ed K ow dn te d) (k : ∀ H', Wd K F ow dn (xt G H H') H' σ → D.nx σ H') : tDrop te D σ H :=
  h σ G H w.wx _ fun v H' e r => k H' (w.ext e)

/-- a statement, then the rest, with a word between -/
def tCut (t u : TS) : TS := fun D σ H => ∃ Mid : L2.St → Hp → Prop, t { D with nx := Mid } σ H ∧ ∀ σ' H', Mid σ' H' → u D σ' H'
theorem pss_cut {X : Cx} {st : Stmt} {rest : List Stmt} (h1 : PS X st t) (h2 : PSs X rest u) : PSs X (st :: rest) (tCut t u) := by
  refine ⟨fun pins s σ H D I h => ?_⟩
  obtain ⟨Mid, hm, hu⟩ := h
  refine wpAny_execs_cons (thn (h1.run pins s σ H { D with nx := Mid } I hm) fun f s1 q => ?_)
  cases f with
  | next =>
    obtain ⟨σ', H', I', q⟩ := q
    exact h2.run pins s1 σ' H' D I' (hu σ' H' q)
  | ret v => exact q
  | brk => exact q
  | cont => exact q
/-- where the word is what is known -/
def Knows (K : PySem.W.Frag) (F : Fr) (ow : Ow) (dn : Dn) : L2.St → Hp → Prop := fun σ H => ∃ G, Wd K F ow dn G H σ
theorem x_cut (w : Wd K F ow dn G H σ) (ow' : Ow) (dn' : Dn) (h : t { D with nx := Knows K F ow' dn' } σ H) (k : ∀ σ' G' H', Wd K F ow' dn' G' H' σ' → u D σ' H') : tCut t u D σ H :=
  ⟨Knows K F ow' dn', h, fun σ' H' ⟨G', w⟩ => k σ' G' H' w⟩
/-- if c: x = e -/
theorem x_ifset {b : Bool} {i : Nat} {d0 : Dt} (w : Wd K F ow dn G H σ) (h : Et K ow dn tt b) (h0 : dn[i]? = some (some d0)) (h1 : b = true → Ed K ow dn te d)
    (k : ∀ σ' G' H', Wd K F ow (dn.set i (some (if b = true then d else d0))) G' H' σ' → u D σ' H') : tCut (tIf0 tt (tAsg te (gName i))) u D σ H := by
  refine x_cut w ow (dn.set i (some (if b = true then d else d0))) ?_ k
  refine x_if0 w h (fun hb H' w' => ?_) (fun hb H' w' => ?_)
  · refine x_set w' (h1 hb) fun v H'' w2 => ⟨_, by rw [if_pos hb]; exact w2⟩
  · refine ⟨_, w'.less (by rw [List.length_set]) fun j dj q => ?_⟩
    rw [if_neg (by rw [hb]; exact Bool.false_ne_true)] at q
    by_cases e : i = j
    · subst e
      rw [List.getElem?_set] at q
      rw [if_pos rfl] at q
      split at q
      · rw [h0, ← q]
      · cases q
    · rw [List.getElem?_set_ne e] at q
      exact q

/-! ### own lists and dicts -/
theorem nodup_snoc {l : List Addr} {a : Addr} (h : l.Nodup) (n : a ∉ l) : (l ++ [a]).Nodup := by
  rw [List.nodup_append]
  refine ⟨h, by simp, fun x hx y hy e => ?_⟩
  have q : y = a := by simpa using hy
  exact n (by rw [← q, ← e]; exact hx)
/-- a new object comes to be owned -/
theorem Wd.own {p : Addr} {ob : Ob} {G2 : Hp} (w : Wd K F ow dn G H σ) (e : Same H H2) (np : H p = none) (g1 : Same G G2) (g2 : Same G2 H2) (f : ∀ b o, G2 b = some o → G b = some o ∨ H b = none) (o : OwnOk K G2 H2 (p, ob)) : Wd K F (ow ++ [(p, ob)]) dn G2 H2 σ where
  wx := {
    gh := g2
    en := fun i d h => by
      obtain ⟨v, q, r⟩ := w.wx.en i d h
      exact ⟨v, q, r.mono g1⟩
    len := w.wx.len
    own := fun q hq => by
      rcases List.mem_append.mp hq with hq | hq
      · have h := w.wx.own q hq
        obtain ⟨u, hu⟩ := h.there
        refine h.mono g1 ?_ (by rw [hu]; exact e _ _ hu)
        cases k : G2 q.1 with
        | none => rfl
        | some z =>
          rcases f _ _ k with k | k
          · rw [h.1] at k; cases k
          · rw [hu] at k; cases k
      · have z : q = (p, ob) := by simpa using hq
        rw [z]; exact o
    nd := by
      rw [List.map_append]
      refine nodup_snoc w.wx.nd fun hp => ?_
      obtain ⟨q, hq, z⟩ := List.mem_map.mp hp
      obtain ⟨u, hu⟩ := (w.wx.own q hq).there
      rw [z, np] at hu
      cases hu }
  hh := w.hh.trans e
  fp := fun b o h => by
    rcases f b o h with k | k
    · exact w.fp b o k
    · exact .inr (w.hh.free k)
  fr := fun q hq => by
    rcases List.mem_append.mp hq with hq | hq
    · exact w.fr q hq
    · have z : q = (p, ob) := by simpa using hq
      rw [z]
      exact .inl (w.hh.free np)
  sb := w.sb.trans g1
/-- x = a new object, kept as one's own -/
theorem x_own {i : Nat} {ob : Ob} (w : Wd K F ow dn G H σ) (h : BW.En K ow dn te ob) (k : ∀ a G' H', Wd K F (ow ++ [(a, ob)]) (dn.set i (some (.adr a))) G' H' (σ.set i (some (.ref a))) → D.nx (σ.set i (some (.ref a))) H') : tAsg te (gName i) D σ H :=
  h σ G H w.wx _ fun p H' e np G2 g1 g2 f o => k p G2 H' ((w.own e np g1 g2 f o).set (.adr p))
theorem mem_set_of {α : Type} {l : List α} {j : Nat} {a b : α} (h : b ∈ l.set j a) : b = a ∨ b ∈ l := by
  rcases List.mem_or_eq_of_mem_set h with h | h
  · exact .inr h
  · exact .inl h
theorem Wx.ne {K : PySem.W.Frag} {ow : Ow} {dn : Dn} {G H : Hp} {σ : L2.St} (w : Wx K ow dn G H σ) {n j : Nat} {p q : Addr × Ob} (h1 : ow[n]? = some p) (h2 : ow[j]? = some q) (e : j ≠ n) : p.1 ≠ q.1 := fun z => by
  have k1 : (ow.map (·.1))[n]? = some q.1 := by rw [List.getElem?_map, h1, ← z]; rfl
  have k2 : (ow.map (·.1))[j]? = some q.1 := by rw [List.getElem?_map, h2]; rfl
  obtain ⟨l1, e1⟩ := List.getElem?_eq_some_iff.mp k1
  obtain ⟨l2, e2⟩ := List.getElem?_eq_some_iff.mp k2
  exact e ((List.getElem_inj w.nd).mp (e2.trans e1.symm))
/-- an owned object is changed -/
theorem Wd.put {j : Nat} {a : Addr} {ob ob' : Ob} {o : HO} (w : Wd K F ow dn G H σ) (hj : ow[j]? = some (a, ob)) (new : OwnOk K G (upd H a o) (a, ob')) : Wd K F (ow.set j (a, ob')) dn G (upd H a o) σ := by
  have hm : (a, ob) ∈ ow := List.mem_of_getElem? hj
  have ho := w.wx.own _ hm
  have na : G a = none := ho.1
  have ge : Same G (upd H a o) := fun b x h => by
    have q : b ≠ a := fun z => by rw [z, na] at h; cases h
    rw [upd_ne q]; exact w.wx.gh b x h
  have hjl : j < ow.length := (List.getElem?_eq_some_iff.mp hj).1
  have keys : (ow.set j (a, ob')).map (·.1) = ow.map (·.1) := by
    rw [List.map_set]
    apply List.ext_getElem?
    intro n
    rw [List.getElem?_set]
    split
    · rename_i e
      subst e
      rw [if_pos (by simpa using hjl), List.getElem?_map, hj]
      rfl
    · rfl
  refine ⟨⟨ge, w.wx.en, w.wx.len, fun p hp => ?_, by rw [keys]; exact w.wx.nd⟩, ⟨fun b x n h => ?_, fun b x h => ?_⟩, w.fp, fun p hp => ?_, w.sb⟩
  · obtain ⟨n, hn⟩ := List.getElem?_of_mem hp
    by_cases e : j = n
    · subst e
      rw [List.getElem?_set_self hjl] at hn
      have q := Option.some.inj hn
      rw [← q]; exact new
    · rw [List.getElem?_set_ne e] at hn
      have h := w.wx.own p (List.mem_of_getElem? hn)
      exact h.mono (Same.refl G) h.1 (upd_ne (w.wx.ne hn hj e))
  · by_cases q : b = a
    · subst q
      rcases w.fr _ hm with k | k
      · have k : F.H0 b = none := k
        rw [h] at k; cases k
      · exact absurd k n
    · rw [upd_ne q]; exact w.hh.1 b x n h
  · by_cases q : b = a
    · exact ⟨o, by rw [q]; exact upd_same⟩
    · rw [upd_ne q]; exact w.hh.2 b x h
  · rcases mem_set_of hp with z | z
    · rw [z]; exact w.fr (a, ob) hm
    · exact w.fr p z
/-- xs.append(e) -/
theorem x_app {j : Nat} {a : Addr} {ds : List Dt} (w : Wd K F ow dn G H σ) (hj : ow[j]? = some (a, .lst ds)) (ho : Ed K ow dn ta (.adr a)) (h : Ed K ow dn te d) (hz : ds.length < 1000000)
    (k : ∀ G' H', Wd K F (ow.set j (a, .lst (ds ++ [d]))) dn G' H' σ → D.nx σ H') : tDrop (tBM K "list" rAppend ta (tCons te tNil)) D σ H :=
  ho σ G H w.wx _ fun v H1 e1 r1 => by
    have w1 := w.ext e1
    have z := r1.a
    subst z
    obtain ⟨vs0, q0, _⟩ := (w1.wx.own _ (List.mem_of_getElem? hj)).2
    refine ⟨.inl ⟨rfl, vs0, SqL.of q0⟩, h σ _ H1 w1.wx _ fun u H2 e2 r2 => ?_⟩
    have w2 := w1.ext e2
    obtain ⟨vs, q, r⟩ := (w2.wx.own _ (List.mem_of_getElem? hj)).2
    refine ⟨a, vs, u, rfl, rfl, q, by rw [r.length]; exact sz_lt hz, ?_⟩
    exact k _ _ (w2.put hj ⟨(w2.wx.own _ (List.mem_of_getElem? hj)).1, _, upd_same, r.append (.cons r2 .nil)⟩)
/-- an owned object is done: it is data from now on -/
theorem Wd.freeze {j : Nat} {a : Addr} {ob : Ob} (w : Wd K F ow dn G H σ) (hj : ow[j]? = some (a, ob)) (hM : a ∉ F.M) : Wd K F (ow.eraseIdx j) dn (plus G H a) H σ := by
  have hm : (a, ob) ∈ ow := List.mem_of_getElem? hj
  have na : G a = none := (w.wx.own _ hm).1
  refine ⟨⟨plus_le w.wx.gh, fun i d h => ?_, w.wx.len, fun p hp => ?_, ?_⟩, w.hh, fun b o h => ?_, fun p hp => w.fr p (List.mem_of_mem_eraseIdx hp), w.sb.trans (plus_ge na)⟩
  · obtain ⟨v, q, r⟩ := w.wx.en i d h
    exact ⟨v, q, r.mono (plus_ge na)⟩
  · have hp' := List.mem_of_mem_eraseIdx hp
    have h := w.wx.own p hp'
    refine h.mono (plus_ge na) ?_ rfl
    have ne : p.1 ≠ a := by
      obtain ⟨n, hn⟩ := List.getElem?_of_mem hp
      rw [List.getElem?_eraseIdx] at hn
      split at hn
      · exact w.wx.ne hn hj (by omega)
      · exact w.wx.ne hn hj (by omega)
    rw [plus_ne ne]; exact h.1
  · have := w.wx.nd.sublist (List.Sublist.map (·.1) (List.eraseIdx_sublist ow j))
    exact this
  · unfold plus at h
    by_cases q : b = a
    · subst q
      rcases w.fr _ hm with k | k
      · exact .inr k
      · exact absurd k hM
    · rw [if_neg q] at h; exact w.fp b o h
theorem Wx.frozen {j i : Nat} {a : Addr} {ob : Ob} (w : Wx K ow dn G H σ) (hj : ow[j]? = some (a, ob)) (hi : dn[i]? = some (some (.adr a))) : Wx K (ow.eraseIdx j) (dn.set i (some ob.dt)) (plus G H a) H σ := by
  have hm : (a, ob) ∈ ow := List.mem_of_getElem? hj
  have na : G a = none := (w.own _ hm).1
  have r := (w.own _ hm).rp
  obtain ⟨v, q, rv⟩ := w.en i _ hi
  have e := rv.a
  subst e
  refine ⟨plus_le w.gh, fun n d h => ?_, by rw [List.length_set]; exact w.len, fun p hp => ?_, w.nd.sublist (List.Sublist.map (·.1) (List.eraseIdx_sublist ow j))⟩
  · by_cases e : i = n
    · subst e
      rw [List.getElem?_set, if_pos rfl] at h
      split at h
      · have z := Option.some.inj (Option.some.inj h)
        subst z
        exact ⟨_, q, r⟩
      · cases h
    · rw [List.getElem?_set_ne e] at h
      obtain ⟨v, q, r⟩ := w.en n d h
      exact ⟨v, q, r.mono (plus_ge na)⟩
  · have h := w.own p (List.mem_of_mem_eraseIdx hp)
    refine h.mono (plus_ge na) ?_ rfl
    have ne : p.1 ≠ a := by
      obtain ⟨n, hn⟩ := List.getElem?_of_mem hp
      rw [List.getElem?_eraseIdx] at hn
      split at hn
      · exact w.ne hn hj (by omega)
      · exact w.ne hn hj (by omega)
    rw [plus_ne ne]; exact h.1
/-- .. and the slot that holds it tells it -/
theorem Wd.frozen {j i : Nat} {a : Addr} {ob : Ob} (w : Wd K F ow dn G H σ) (hj : ow[j]? = some (a, ob)) (hi : dn[i]? = some (some (.adr a))) (hM : a ∉ F.M) : Wd K F (ow.eraseIdx j) (dn.set i (some ob.dt)) (plus G H a) H σ := by
  have w2 := w.freeze hj hM
  exact ⟨w.wx.frozen hj hi, w2.hh, w2.fp, w2.fr, w2.sb⟩
/-- an expression that reads an owned object and gives a scalar -/
theorem ed_bor {j i : Nat} {a : Addr} {ob : Ob} (hj : ow[j]? = some (a, ob)) (hi : dn[i]? = some (some (.adr a))) (h : Ed K (ow.eraseIdx j) (dn.set i (some ob.dt)) te d) (s : d.sc = true) : Ed K ow dn te d := fun σ G H w Q q =>
  h σ _ H (w.frozen hj hi) Q fun v H2 e r => q v H2 e (r.sc s)
theorem et_bor {b : Bool} {j i : Nat} {a : Addr} {ob : Ob} (hj : ow[j]? = some (a, ob)) (hi : dn[i]? = some (some (.adr a))) (h : Et K (ow.eraseIdx j) (dn.set i (some ob.dt)) tt b) : Et K ow dn tt b := fun σ G H w Q q =>
  h σ _ H (w.frozen hj hi) Q q

/-! ### loops -/
/-- less is known of the slots -/
def Le (dn' dn : Dn) : Prop := dn'.length = dn.length ∧ ∀ (i : Nat) (d : Dt), dn'[i]? = some (some d) → dn[i]? = some (some d)
theorem Le.refl (dn : Dn) : Le dn dn := ⟨rfl, fun _ _ h => h⟩
theorem Le.drop (dn : Dn) (j : Nat) : Le (dn.set j none) dn := ⟨List.length_set, fun i d h => by
  by_cases e : j = i
  · subst e
    rw [List.getElem?_set, if_pos rfl] at h
    split at h <;> cases h
  · rw [List.getElem?_set_ne e] at h; exact h⟩
theorem Le.trans {a b c : Dn} (h : Le a b) (k : Le b c) : Le a c := ⟨h.1.trans k.1, fun i d q => k.2 i d (h.2 i d q)⟩
/-- a slot forgotten -/
theorem Le.one {dn : Dn} {j : Nat} {x : Option Dt} : Le (dn.set j none) (dn.set j x) := by
  have h := Le.drop (dn.set j x) j
  rw [List.set_set] at h
  exact h
theorem Le.nil : Le [] [] := Le.refl _
theorem Le.same {a b : Dn} {d : Option Dt} (h : Le a b) : Le (d :: a) (d :: b) := ⟨by show _ + 1 = _ + 1; rw [h.1], fun i x q => by
  cases i with
  | zero => exact q
  | succ i => exact h.2 i x q⟩
theorem Le.skip {a b : Dn} {d : Option Dt} (h : Le a b) : Le (none :: a) (d :: b) := ⟨by show _ + 1 = _ + 1; rw [h.1], fun i x q => by
  cases i with
  | zero =>
    have z := Option.some.inj q
    cases z
  | succ i => exact h.2 i x q⟩
theorem Knows.mk {dn' : Dn} (w : Wd K F ow dn G H σ) (l : Le dn' dn) : Knows K F ow dn' σ H := ⟨G, w.less l.1 l.2⟩
/-- what holds at a turn -/
def At (K : PySem.W.Frag) (F : Fr) (P : Ow → Dn → Prop) : L2.St → Hp → Prop := fun σ H => ∃ ow dn dn' G, P ow dn' ∧ Le dn' dn ∧ Wd K F ow dn G H σ
theorem At.mk {P : Ow → Dn → Prop} {dn' : Dn} (w : Wd K F ow dn G H σ) (p : P ow dn') (l : Le dn' dn := by exact Le.refl _) : At K F P σ H := ⟨ow, dn, dn', G, p, l, w⟩
theorem At.get {P : Ow → Dn → Prop} (h : At K F P σ H) : ∃ ow dn G, P ow dn ∧ Wd K F ow dn G H σ := by
  obtain ⟨ow, dn, dn', G, p, l, w⟩ := h
  exact ⟨ow, dn', G, p, w.less l.1 l.2⟩
theorem x_cutA (w : Wd K F ow dn G H σ) (P : Ow → Dn → Prop) (h : t { D with nx := At K F P } σ H) (k : ∀ ow' dn' σ' G' H', P ow' dn' → Wd K F ow' dn' G' H' σ' → u D σ' H') : tCut t u D σ H :=
  ⟨At K F P, h, fun σ' H' p => by
    obtain ⟨ow', dn', G', p, w'⟩ := p.get
    exact k ow' dn' σ' G' H' p w'⟩
/-- for i in range(n) -/
theorem x_forR1 {tr : TA} {i : Nat} {n : Int} (w : Wd K F ow dn G H σ) (h : Ea K ow dn tr [.int n]) (hn : -(2 ^ 62) ≤ n ∧ n < 2 ^ 62) (P : Nat → Ow → Dn → Prop) (h0 : ∃ dn', P 0 ow dn' ∧ Le dn' dn)
    (hs : ∀ (m : Nat) ow' dn' (σ' : L2.St) G' H' v, (m : Int) < n → P m ow' dn' → Wd K F ow' (dn'.set i (some (.int m))) G' H' (σ'.set i (some v)) → t { D with nx := At K F (P (m + 1)), ct := At K F (P (m + 1)), bk := D.nx } (σ'.set i (some v)) H')
    (hd : ∀ ow' dn' σ' G' H', P n.toNat ow' dn' → Wd K F ow' dn' G' H' σ' → D.nx σ' H') : tFor (iRng1 tr) (gName i) t D σ H :=
  h σ G H w.wx _ fun vs H1 e1 r1 => by
    obtain ⟨v, rfl, r⟩ := r1.one
    refine ⟨n, by rw [r.i], hn.1, hn.2, for_range (fun m σ H => At K F (P m) σ H) ?_ (fun m σ' H' hm hp => ?_) (fun σ' H' hp => ?_)⟩
    · obtain ⟨dn', p, l⟩ := h0
      exact At.mk (w.ext e1) p l
    · obtain ⟨ow', dn', G', p, w'⟩ := hp.get
      have e0 : (0 : Int) + (m : Int) = (m : Int) := Int.zero_add _
      rw [e0]
      exact hs m ow' dn' σ' G' H' _ (by omega) p (w'.set (.int m))
    · obtain ⟨ow', dn', G', p, w'⟩ := hp.get
      exact hd ow' dn' σ' G' H' p w'
/-- for i in range(lo, n) -/
theorem x_forR2 {tr : TA} {i : Nat} {lo n : Int} (w : Wd K F ow dn G H σ) (h : Ea K ow dn tr [.int lo, .int n]) (hl : -(2 ^ 62) ≤ lo ∧ lo < 2 ^ 62) (hn : -(2 ^ 62) ≤ n ∧ n < 2 ^ 62) (P : Nat → Ow → Dn → Prop) (h0 : ∃ dn', P 0 ow dn' ∧ Le dn' dn)
    (hs : ∀ (m : Nat) ow' dn' (σ' : L2.St) G' H' v, lo + (m : Int) < n → P m ow' dn' → Wd K F ow' (dn'.set i (some (.int (lo + m)))) G' H' (σ'.set i (some v)) → t { D with nx := At K F (P (m + 1)), ct := At K F (P (m + 1)), bk := D.nx } (σ'.set i (some v)) H')
    (hd : ∀ ow' dn' σ' G' H', P (n - lo).toNat ow' dn' → Wd K F ow' dn' G' H' σ' → D.nx σ' H') : tFor (iRng2 tr) (gName i) t D σ H :=
  h σ G H w.wx _ fun vs H1 e1 r1 => by
    obtain ⟨v, u, rfl, r, r'⟩ := r1.two
    refine ⟨lo, n, by rw [r.i, r'.i], ⟨hl.1, hl.2, hn.1, hn.2⟩, for_range (fun m σ H => At K F (P m) σ H) ?_ (fun m σ' H' hm hp => ?_) (fun σ' H' hp => ?_)⟩
    · obtain ⟨dn', p, l⟩ := h0
      exact At.mk (w.ext e1) p l
    · obtain ⟨ow', dn', G', p, w'⟩ := hp.get
      exact hs m ow' dn' σ' G' H' _ (by omega) p (w'.set (.int _))
    · obtain ⟨ow', dn', G', p, w'⟩ := hp.get
      exact hd ow' dn' σ' G' H' p w'
/-- for target in xs, a list of data: g as the target's rule tells -/
theorem x_forLg {g : TG} {tl : TE} {ds : List Dt} (w : Wd K F ow dn G H σ) (h : Ed K ow dn tl (.lst ds)) (P : Nat → Ow → Dn → Prop) (h0 : ∃ dn', P 0 ow dn' ∧ Le dn' dn)
    (hs : ∀ (m : Nat) d ow' dn' (σ' : L2.St) B G' H' v, ds[m]? = some d → P m ow' dn' → Wd K (F.to B) ow' dn' G' H' σ' → Rp K G' v d → g v σ' H' fun σ2 H2 => t { D with nx := At K (F.to B) (P (m + 1)), ct := At K (F.to B) (P (m + 1)), bk := D.nx } σ2 H2)
    (hd : ∀ ow' dn' σ' G' H', P ds.length ow' dn' → Wd K F ow' dn' G' H' σ' → D.nx σ' H') : tFor (iList K tl) g t D σ H :=
  h σ G H w.wx _ fun v H1 e1 r1 => by
    obtain ⟨a, vs, rfl, hs1, ra⟩ := r1.L
    have w1 := w.ext e1
    refine ⟨a, rfl, ⟨vs, w1.wx.gh.seq hs1⟩, for_list (xs := vs) (fun m σ H' => At K (F.to (xt G H H1)) (P m) σ H') ?_ (fun m σ' H' hm hp => ?_) (fun m x σ' H' hx hp => ?_) (fun σ' H' hp => ?_)⟩
    · obtain ⟨dn', p, l⟩ := h0
      exact At.mk (w1.base (Same.refl _)) p l
    · obtain ⟨ow', dn', G', p, w'⟩ := hp.get
      exact w'.wx.gh.seq (w'.sb.seq hs1)
    · obtain ⟨ow', dn', G', p, w'⟩ := hp.get
      obtain ⟨d, hd', rd⟩ := ra.get' hx
      exact hs m d ow' dn' σ' _ G' H' x hd' p w' (rd.mono w'.sb)
    · obtain ⟨ow', dn', G', p, w'⟩ := hp.get
      rw [ra.length] at p
      exact hd ow' dn' σ' G' H' p (w'.back w1.sb)
theorem x_forL {tl : TE} {i : Nat} {ds : List Dt} (w : Wd K F ow dn G H σ) (h : Ed K ow dn tl (.lst ds)) (P : Nat → Ow → Dn → Prop) (h0 : ∃ dn', P 0 ow dn' ∧ Le dn' dn)
    (hs : ∀ (m : Nat) d ow' dn' (σ' : L2.St) B G' H' v, ds[m]? = some d → P m ow' dn' → Wd K (F.to B) ow' (dn'.set i (some d)) G' H' (σ'.set i (some v)) → t { D with nx := At K (F.to B) (P (m + 1)), ct := At K (F.to B) (P (m + 1)), bk := D.nx } (σ'.set i (some v)) H')
    (hd : ∀ ow' dn' σ' G' H', P ds.length ow' dn' → Wd K F ow' dn' G' H' σ' → D.nx σ' H') : tFor (iList K tl) (gName i) t D σ H :=
  x_forLg w h P h0 (fun m d ow' dn' σ' B G' H' v e p w' r => hs m d ow' dn' σ' B G' H' v e p (w'.set r)) hd
end
end BW
namespace BW
open PySem L2 PySem.Spec PyProof.Rows
/-! ### the same ahead of a rest -/
section
variable {K : PySem.W.Frag} {F : Fr} {ow : Ow} {dn : Dn} {G H H2 : Hp} {σ : L2.St} {d : Dt} {te ta tb : TE} {tt : TT} {D : Ends} {t u t2 : TS}
theorem s_set {i : Nat} (w : Wd K F ow dn G H σ) (h : Ed K ow dn te d) (k : ∀ v H', Wd K F ow (dn.set i (some d)) (xt G H H') H' (σ.set i (some v)) → u D (σ.set i (some v)) H') : tSeq (tAsg te (gName i)) u D σ H := x_set w h k
theorem s_own {i : Nat} {ob : Ob} (w : Wd K F ow dn G H σ) (h : BW.En K ow dn te ob) (k : ∀ a G' H', Wd K F (ow ++ [(a, ob)]) (dn.set i (some (.adr a))) G' H' (σ.set i (some (.ref a))) → u D (σ.set i (some (.ref a))) H') : tSeq (tAsg te (gName i)) u D σ H := x_own w h k
theorem s_drop (w : Wd K F ow dn G H σ) (h : Ed K ow dn te d) (k : ∀ H', Wd K F ow dn (xt G H H') H' σ → u D σ H') : tSeq (tDrop te) u D σ H := x_drop w h k
theorem s_if {b : Bool} (w : Wd K F ow dn G H σ) (h : Et K ow dn tt b) (k1 : b = true → ∀ H', Wd K F ow dn (xt G H H') H' σ → t { D with nx := u D } σ H') (k2 : b = false → ∀ H', Wd K F ow dn (xt G H H') H' σ → t2 { D with nx := u D } σ H') : tSeq (tIfS tt t t2) u D σ H := x_if w h k1 k2
theorem s_if0 {b : Bool} (w : Wd K F ow dn G H σ) (h : Et K ow dn tt b) (k1 : b = true → ∀ H', Wd K F ow dn (xt G H H') H' σ → t { D with nx := u D } σ H') (k2 : b = false → ∀ H', Wd K F ow dn (xt G H H') H' σ → u D σ H') : tSeq (tIf0 tt t) u D σ H := x_if0 w h k1 k2
theorem s_if0T {b : Bool} (w : Wd K F ow dn G H σ) (h : Et K ow dn tt b) (e : b = true) (k : ∀ H', Wd K F ow dn (xt G H H') H' σ → t { D with nx := u D } σ H') : tSeq (tIf0 tt t) u D σ H := x_if0T w h e k
theorem s_if0F {b : Bool} (w : Wd K F ow dn G H σ) (h : Et K ow dn tt b) (e : b = false) (k : ∀ H', Wd K F ow dn (xt G H H') H' σ → u D σ H') : tSeq (tIf0 tt t) u D σ H := x_if0F w h e k
theorem s_app {j : Nat} {a : Addr} {ds : List Dt} (w : Wd K F ow dn G H σ) (hj : ow[j]? = some (a, .lst ds)) (ho : Ed K ow dn ta (.adr a)) (h : Ed K ow dn te d) (hz : ds.length < 1000000)
    (k : ∀ G' H', Wd K F (ow.set j (a, .lst (ds ++ [d]))) dn G' H' σ → u D σ H') : tSeq (tDrop (tBM K "list" rAppend ta (tCons te tNil))) u D σ H := x_app w hj ho h hz k
theorem s_forR1 {tr : TA} {i : Nat} {n : Int} (w : Wd K F ow dn G H σ) (h : Ea K ow dn tr [.int n]) (hn : -(2 ^ 62) ≤ n ∧ n < 2 ^ 62) (P : Nat → Ow → Dn → Prop) (h0 : ∃ dn', P 0 ow dn' ∧ Le dn' dn)
    (hs : ∀ (m : Nat) ow' dn' (σ' : L2.St) G' H' v, (m : Int) < n → P m ow' dn' → Wd K F ow' (dn'.set i (some (.int m))) G' H' (σ'.set i (some v)) → t { D with nx := At K F (P (m + 1)), ct := At K F (P (m + 1)), bk := u D } (σ'.set i (some v)) H')
    (hd : ∀ ow' dn' σ' G' H', P n.toNat ow' dn' → Wd K F ow' dn' G' H' σ' → u D σ' H') : tSeq (tFor (iRng1 tr) (gName i) t) u D σ H := x_forR1 w h hn P h0 hs hd
theorem s_forR2 {tr : TA} {i : Nat} {lo n : Int} (w : Wd K F ow dn G H σ) (h : Ea K ow dn tr [.int lo, .int n]) (hl : -(2 ^ 62) ≤ lo ∧ lo < 2 ^ 62) (hn : -(2 ^ 62) ≤ n ∧ n < 2 ^ 62) (P : Nat → Ow → Dn → Prop) (h0 : ∃ dn', P 0 ow dn' ∧ Le dn' dn)
    (hs : ∀ (m : Nat) ow' dn' (σ' : L2.St) G' H' v, lo + (m : Int) < n → P m ow' dn' → Wd K F ow' (dn'.set i (some (.int (lo + m)))) G' H' (σ'.set i (some v)) → t { D with nx := At K F (P (m + 1)), ct := At K F (P (m + 1)), bk := u D } (σ'.set i (some v)) H')
    (hd : ∀ ow' dn' σ' G' H', P (n - lo).toNat ow' dn' → Wd K F ow' dn' G' H' σ' → u D σ' H') : tSeq (tFor (iRng2 tr) (gName i) t) u D σ H := x_forR2 w h hl hn P h0 hs hd
theorem s_forL {tl : TE} {i : Nat} {ds : List Dt} (w : Wd K F ow dn G H σ) (h : Ed K ow dn tl (.lst ds)) (P : Nat → Ow → Dn → Prop) (h0 : ∃ dn', P 0 ow dn' ∧ Le dn' dn)
    (hs : ∀ (m : Nat) d ow' dn' (σ' : L2.St) B G' H' v, ds[m]? = some d → P m ow' dn' → Wd K (F.to B) ow' (dn'.set i (some d)) G' H' (σ'.set i (some v)) → t { D with nx := At K (F.to B) (P (m + 1)), ct := At K (F.to B) (P (m + 1)), bk := u D } (σ'.set i (some v)) H')
    (hd : ∀ ow' dn' σ' G' H', P ds.length ow' dn' → Wd K F ow' dn' G' H' σ' → u D σ' H') : tSeq (tFor (iList K tl) (gName i) t) u D σ H := x_forL w h P h0 hs hd
end
end BW

set_option Elab.async false
set_option linter.all false
set_option maxRecDepth 100000
set_option maxHeartbeats 4000000
/-! BW4: defs by name, built-ins by name, small choices, == of data without dicts. -/
namespace BW
open PySem L2 PySem.Spec

/-! ### defs by name -/
/-- the def st stands at the name x -/
structure Df (K : PySem.W.Frag) (mg : Str → Option Value) (x : Str) (st : Stmt) (ps : List Str) (f : Addr) (fd : FuncData) : Prop where
  fn : Fun K x x st f fd
  at' : mg x = some (.ref f)
  bd : Binds K fd ps []
/-- the name x is a def that keeps its promise -/
structure Cl (P : Program) (w : World) (K : PySem.W.Frag) (mg : Str → Option Value) (base : Heap) (k : Nat) (x : Str) (ps : List Str) (sp : Sp) : Prop where
  ex : ∃ f fd, FnOk P w K mg base CX0 k f fd ps sp ∧ mg x = some (.ref f) ∧ PySem.W.keepIn K (.ref f) = true ∧ Binds K fd ps []
section
variable {P : Program} {w : World} {K : PySem.W.Frag} {mg : Str → Option Value} {base : Heap} {k : Nat} {x : Str} {ps : List Str} {sp : Sp} {st : Stmt} {f : Addr} {fd : FuncData}
theorem Df.cl (F : Df K mg x st ps f fd) (h : FnOk P w K mg base CX0 k f fd ps sp) : Cl P w K mg base k x ps sp := ⟨⟨f, fd, h, F.at', F.fn.kp, F.bd⟩⟩
theorem Cl.mono {j : Nat} (C : Cl P w K mg base j x ps sp) (h : j ≤ k) : Cl P w K mg base k x ps sp := by
  obtain ⟨f, fd, h1, h2⟩ := C.ex
  exact ⟨⟨f, fd, h1.mono h, h2⟩⟩
end
section
variable {X : Cx} {k j : Nat} {x : Str} {ps : List Str} {sp : Sp} {p pos : Pos} {e : Expr} {es : List Expr} {t : TA}
theorem pe_cl (C : Cl X.prog X.w X.K X.mg X.base k x ps sp) (hr : Room j X.A) (hkj : k ≤ j) (hg : Gl X x) (ha : PA X (e :: es) t) (hx : Passes CX0 X E0 := by exact pass0)
    (hdb : (x == ("__debug__" : Str)) = false := by decide) (he : starEach (e :: es) X.env = (false, eval e X.env) :: starEach es X.env := by rfl) (hpl : (backTo pos (starEach es X.env)).any (·.1) = false := by rfl) :
    PE X (.Call (.Name x p) (e :: es) [] pos) (tCall sp [] E0 t) := by
  obtain ⟨f, fd, h1, h2, h3, h4⟩ := C.ex
  exact pe_call h1 (hr.mono hkj) hg h2 h3 h4 .nil hx ha hdb he hpl
end

/-! ### built-ins by name -/
def Free (mg : Str → Option Value) (xs : List Str) : Prop := ∀ x ∈ xs, mg x = none
theorem Free.nil {mg : Str → Option Value} : Free mg [] := fun _ h => (List.not_mem_nil h).elim
theorem Free.cons {mg : Str → Option Value} {x : Str} {xs : List Str} (h : mg x = none) (r : Free mg xs) : Free mg (x :: xs) := fun y hy => by
  rcases List.mem_cons.mp hy with e | e
  · rw [e]; exact h
  · exact r y e
theorem bt_len : bootBuiltins "len" = some (.builtin "len") := by decide +kernel
theorem bt_min : bootBuiltins "min" = some (.builtin "min") := by decide +kernel
theorem bt_max : bootBuiltins "max" = some (.builtin "max") := by decide +kernel
theorem bt_sum : bootBuiltins "sum" = some (.builtin "sum") := by decide +kernel
theorem bt_all : bootBuiltins "all" = some (.builtin "all") := by decide +kernel
theorem bt_sorted : bootBuiltins "sorted" = some (.builtin "sorted") := by decide +kernel
theorem bt_isinstance : bootBuiltins "isinstance" = some (.builtin "isinstance") := by decide +kernel
theorem bt_int : bootBuiltins "int" = some (.type "int") := by decide +kernel
theorem bt_bool : bootBuiltins "bool" = some (.type "bool") := by decide +kernel
theorem bt_str : bootBuiltins "str" = some (.type "str") := by decide +kernel
theorem bt_list : bootBuiltins "list" = some (.type "list") := by decide +kernel
theorem bt_tuple : bootBuiltins "tuple" = some (.type "tuple") := by decide +kernel
theorem bt_dict : bootBuiltins "dict" = some (.type "dict") := by decide +kernel
theorem bt_set : bootBuiltins "set" = some (.type "set") := by decide +kernel
theorem bt_zip : bootBuiltins "zip" = some (.type "zip") := by decide +kernel
section
variable {X : Cx}
/-- a built-in type by its name, as a value -/
theorem pe_ty {x : Str} {n : String} {pos : Pos} (hg : Gl X x) (hm : X.mg x = none) (hv : bootBuiltins x = some (.type n)) (hn : x ≠ "__name__" := by decide) (hd : (x == ("__debug__" : Str)) = false := by decide) : PE X (.Name x pos) (tC (.ty n)) :=
  pe_bltn hg hm hv rfl hn hd
end

section
variable {X : Cx}
/-- a whole number of the module's top -/
theorem pe_globI {x : Str} {n : Int} {pos : Pos} (hg : Gl X x) (h : ∃ t, X.mg x = some (.int n t)) (hd : (x == ("__debug__" : Str)) = false := by decide) : PE X (.Name x pos) (tC (.int n)) := by
  obtain ⟨t, h⟩ := h
  exact pe_glob hg h ⟨t, rfl⟩ hd
end
/-! ### a law's end -/
theorem sp_end {K : PySem.W.Frag} {R : List Dt → Dt → Prop} {H : Hp} {a : Addr} {ns : List Int} (hR : R [.lst (ns.map .int)] (.bl true)) (hS : SqL K H a (ns.map V.int)) : SpR K R [.ref a] H (fun v _ => v = .bl true) fun _ _ _ => False :=
  ⟨H, [.lst (ns.map .int)], .bl true, Same.refl H, .cons (.lst hS (RpA.of_ints ns)) .nil, hR, fun v H' _ r => r.b⟩

/-! ### one of a few, by its place -/
section
variable {α : Type}
def sel2 (i : Int) (a b : α) : α := if i = 0 then a else b
def sel3 (i : Int) (a b c : α) : α := if i = 0 then a else if i = 1 then b else c
def sel4 (i : Int) (a b c d : α) : α := if i = 0 then a else if i = 1 then b else if i = 2 then c else d
theorem at2 {i : Int} {a b : α} (h : 0 ≤ i ∧ i < 2) : atI [a, b] i = some (sel2 i a b) := by
  obtain e | e : i = 0 ∨ i = 1 := by omega
  all_goals (subst e; rfl)
theorem at3 {i : Int} {a b c : α} (h : 0 ≤ i ∧ i < 3) : atI [a, b, c] i = some (sel3 i a b c) := by
  obtain e | e | e : i = 0 ∨ i = 1 ∨ i = 2 := by omega
  all_goals (subst e; rfl)
theorem at4 {i : Int} {a b c d : α} (h : 0 ≤ i ∧ i < 4) : atI [a, b, c, d] i = some (sel4 i a b c d) := by
  obtain e | e | e | e : i = 0 ∨ i = 1 ∨ i = 2 ∨ i = 3 := by omega
  all_goals (subst e; rfl)
end
theorem at2i {i : Int} {a b : Int} (h : 0 ≤ i ∧ i < 2) : atI [Dt.int a, .int b] i = some (.int (sel2 i a b)) := by
  obtain e | e : i = 0 ∨ i = 1 := by omega
  all_goals (subst e; rfl)
theorem at3i {i : Int} {a b c : Int} (h : 0 ≤ i ∧ i < 3) : atI [Dt.int a, .int b, .int c] i = some (.int (sel3 i a b c)) := by
  obtain e | e | e : i = 0 ∨ i = 1 ∨ i = 2 := by omega
  all_goals (subst e; rfl)
theorem at4i {i : Int} {a b c d : Int} (h : 0 ≤ i ∧ i < 4) : atI [Dt.int a, .int b, .int c, .int d] i = some (.int (sel4 i a b c d)) := by
  obtain e | e | e | e : i = 0 ∨ i = 1 ∨ i = 2 ∨ i = 3 := by omega
  all_goals (subst e; rfl)
/-- a list's item at a place -/
theorem at_n {ds : List Dt} {i : Int} (h : 0 ≤ i ∧ i < ds.length) : atI ds i = some (ds.getD i.toNat .non) := by
  obtain ⟨n, rfl⟩ : ∃ n : Nat, i = n := ⟨i.toNat, by omega⟩
  have hl : n < ds.length := by omega
  rw [atI_nat (v := ds[n]) (List.getElem?_eq_getElem hl)]
  simp [hl]
theorem at_ints {ns : List Int} {i : Int} (h : 0 ≤ i ∧ i < ns.length) : atI (ns.map Dt.int) i = some (.int (ns.getD i.toNat 0)) := by
  obtain ⟨n, rfl⟩ : ∃ n : Nat, i = n := ⟨i.toNat, by omega⟩
  have hl : n < ns.length := by omega
  rw [atI_nat (v := Dt.int ns[n]) (by rw [List.getElem?_map, List.getElem?_eq_getElem hl]; rfl)]
  simp [hl]
theorem at_strs {ns : List Str} {i : Int} (h : 0 ≤ i ∧ i < ns.length) : atI (ns.map Dt.str) i = some (.str (ns.getD i.toNat (Str.ofString ""))) := by
  obtain ⟨n, rfl⟩ : ∃ n : Nat, i = n := ⟨i.toNat, by omega⟩
  have hl : n < ns.length := by omega
  rw [atI_nat (v := Dt.str ns[n]) (by rw [List.getElem?_map, List.getElem?_eq_getElem hl]; rfl)]
  simp [hl]

/-! ### == of data without dicts -/
mutual
def toP : Dt → PyData
  | .non => .none
  | .bl b => .bool b
  | .int i => .int i
  | .str x => .str x
  | .tup xs => .tuple (toPs xs)
  | .lst xs => .list (toPs xs)
  | _ => .dict []
def toPs : List Dt → List PyData
  | [] => []
  | x :: xs => toP x :: toPs xs
end
mutual
def Dt.fl : Dt → Bool
  | .non | .bl _ | .int _ | .str _ => true
  | .tup xs => flA xs
  | .lst xs => flA xs
  | _ => false
def flA : List Dt → Bool
  | [] => true
  | x :: xs => x.fl && flA xs
end
section
variable {K : PySem.W.Frag} {H : Hp}
mutual
theorem Rp.dp : ∀ (d : Dt) {v : V}, Rp K H v d → d.fl = true → Dp K H v (toP d)
  | .non, _, h, _ => by cases h; exact .non
  | .bl b, _, h, _ => by cases h; exact .bl b
  | .int i, _, h, _ => by cases h; exact .int i
  | .str x, _, h, _ => by cases h; exact .str x
  | .tup xs, _, h, f => by
    cases h with
    | tup h r => exact .tup h (RpA.dp xs r f)
  | .lst xs, _, h, f => by
    cases h with
    | lst h r => exact .lst h (RpA.dp xs r f)
  | .ty _, _, _, f => by cases f
  | .adr _, _, _, f => by cases f
  | .dct _, _, _, f => by cases f
  | .ins _ _, _, _, f => by cases f
theorem RpA.dp : ∀ (ds : List Dt) {vs : List V}, RpA K H vs ds → flA ds = true → DpAll K H vs (toPs ds)
  | [], _, h, _ => by cases h; exact .nil
  | d :: ds, _, h, f => by
    cases h with
    | cons h r =>
      have f' : (d.fl && flA ds) = true := f
      rw [Bool.and_eq_true] at f'
      exact .cons (Rp.dp d h f'.1) (RpA.dp ds r f'.2)
end
end
section
variable {K : PySem.W.Frag} {ow : Ow} {dn : Dn} {ta tb : TE} {x y : Dt}
theorem ed_eqD (ha : Ed K ow dn ta x) (hb : Ed K ow dn tb y) (fx : x.fl = true := by rfl) (fy : y.fl = true := by rfl) (sx : SeqAt.shaped (toP x) = true := by rfl) (sy : SeqAt.shaped (toP y) = true := by rfl) : Ed K ow dn (tOp (rEqD K) ta tb) (.bl (PyData.eqv (toP x) (toP y))) :=
  ed_op ha hb fun G H e v u r1 r2 Q q => ⟨toP x, toP y, (r1.mono e).dp _ fx, (r2.mono e).dp _ fy, sx, sy, q _ H (Same.refl H) (.bl _)⟩
theorem ed_neD (ha : Ed K ow dn ta x) (hb : Ed K ow dn tb y) (fx : x.fl = true := by rfl) (fy : y.fl = true := by rfl) (sx : SeqAt.shaped (toP x) = true := by rfl) (sy : SeqAt.shaped (toP y) = true := by rfl) : Ed K ow dn (tOp (rNeD K) ta tb) (.bl (!PyData.eqv (toP x) (toP y))) :=
  ed_op ha hb fun G H e v u r1 r2 Q q => ⟨toP x, toP y, (r1.mono e).dp _ fx, (r2.mono e).dp _ fy, sx, sy, q _ H (Same.refl H) (.bl _)⟩
end
end BW

set_option Elab.async false
set_option linter.all false
set_option maxRecDepth 100000
set_option maxHeartbeats 4000000
/-! BW6: dicts, comprehensions, stores, texts, == of data with dicts. -/
namespace BW
open PySem L2 PySem.Spec PyProof.Rows

/-! ### keys -/
def kD : Key → Dt
  | .inl k => .int k
  | .inr x => .str x
section
variable {K : PySem.W.Frag} {H : Hp}
theorem Rp.k {v : V} {k : Key} (h : Rp K H v (kD k)) : v = kV k := by
  cases k with
  | inl i => exact h.i
  | inr x => exact h.s
theorem valD_cons (p : Key × Dt) (r : List (Key × Dt)) (k : Key) : valD (p :: r) k = if p.1 = k then some p.2 else valD r k := by
  unfold valD
  rw [List.find?_cons]
  by_cases h : p.1 = k
  · simp [h]
  · simp [h]
theorem RpK.val : ∀ {vs : List (Key × V)} {ds : List (Key × Dt)}, RpK K H vs ds → ∀ k : Key, (valD ds k = none ∧ valV vs k = none) ∨ ∃ d v, valD ds k = some d ∧ valV vs k = some v ∧ Rp K H v d
  | _, _, .nil, k => .inl ⟨rfl, rfl⟩
  | (k0, v0) :: vs, (_, d0) :: ds, .cons h r, k => by
    rw [valD_cons]
    by_cases e : k0 = k
    · refine .inr ⟨d0, v0, if_pos e, valV_pos e, h⟩
    · have e2 : valV ((k0, v0) :: vs) k = valV vs k := valV_neg e
      rw [if_neg e, e2]
      exact RpK.val r k
theorem RpK.keys : ∀ {vs : List (Key × V)} {ds : List (Key × Dt)}, RpK K H vs ds → vs.map (·.1) = ds.map (·.1)
  | _, _, .nil => rfl
  | _, _, .cons h r => by
    show _ :: _ = _ :: _
    rw [RpK.keys r]
theorem RpK.any : ∀ {vs : List (Key × V)} {ds : List (Key × Dt)}, RpK K H vs ds → ∀ k : Key, (vs.any fun kv => decide (kv.1 = k)) = ds.any fun kv => decide (kv.1 = k)
  | _, _, .nil, k => rfl
  | _, _, .cons h r, k => by
    rw [List.any_cons, List.any_cons, RpK.any r k]
theorem RpK.append : ∀ {vs us : List (Key × V)} {ds es : List (Key × Dt)}, RpK K H vs ds → RpK K H us es → RpK K H (vs ++ us) (ds ++ es)
  | _, _, _, _, .nil, s => s
  | _, _, _, _, .cons h r, s => .cons h (RpK.append r s)
theorem RpK.repl {v : V} {d : Dt} (h : Rp K H v d) (k : Key) : ∀ {vs : List (Key × V)} {ds : List (Key × Dt)}, RpK K H vs ds → RpK K H (vs.map fun kv => if kv.1 = k then (kv.1, v) else kv) (ds.map fun kv => if kv.1 = k then (kv.1, d) else kv)
  | _, _, .nil => .nil
  | (k0, v0) :: vs, (_, d0) :: ds, .cons q r => by
    show RpK K H ((if k0 = k then (k0, v) else (k0, v0)) :: _) ((if k0 = k then (k0, d) else (k0, d0)) :: _)
    by_cases e : k0 = k
    · rw [if_pos e, if_pos e]
      exact .cons h (RpK.repl h k r)
    · rw [if_neg e, if_neg e]
      exact .cons q (RpK.repl h k r)
theorem RpK.put {vs : List (Key × V)} {ds : List (Key × Dt)} {v : V} {d : Dt} (r : RpK K H vs ds) (k : Key) (h : Rp K H v d) : RpK K H (putK vs k v) (putD ds k d) := by
  unfold putK putD
  rw [r.any k]
  split
  · exact r.repl h k
  · exact r.append (.cons h .nil)
theorem putD_len (ks : List (Key × Dt)) (k : Key) (d : Dt) : (putD ks k d).length ≤ ks.length + 1 := by
  unfold putD
  split
  · rw [List.length_map]; omega
  · rw [List.length_append]; exact Nat.le_refl _
theorem valD_put (ks : List (Key × Dt)) (k j : Key) (d : Dt) : valD (putD ks k d) j = if k = j then some d else valD ks j := by
  have snoc : ∀ l : List (Key × Dt), valD (l ++ [(k, d)]) j = if (valD l j).isSome then valD l j else if k = j then some d else none := by
    intro l
    induction l with
    | nil =>
      show valD [(k, d)] j = _
      rw [valD_cons]
      simp [valD]
    | cons p r ih =>
      rw [List.cons_append, valD_cons, ih, valD_cons]
      by_cases e : p.1 = j
      · simp [e]
      · simp [e]
  have isS : ∀ (l : List (Key × Dt)) (i : Key), (l.any fun kv => decide (kv.1 = i)) = (valD l i).isSome := by
    intro l i
    induction l with
    | nil => rfl
    | cons p r ih =>
      rw [List.any_cons, valD_cons, ih]
      by_cases e : p.1 = i <;> simp [e]
  have rep : ∀ l : List (Key × Dt), valD (l.map fun kv => if kv.1 = k then (kv.1, d) else kv) j = if k = j then (valD l j).map (fun _ => d) else valD l j := by
    intro l
    induction l with
    | nil =>
      show valD [] j = _
      split <;> rfl
    | cons p r ih =>
      rw [List.map_cons, valD_cons, ih, valD_cons]
      by_cases e : p.1 = k
      · rw [if_pos e]
        by_cases e2 : k = j
        · have : p.1 = j := e.trans e2
          simp [e2, this]
        · have : ¬ p.1 = j := fun z => e2 (e.symm.trans z)
          simp [e2, this]
      · rw [if_neg e]
        by_cases e2 : k = j
        · have : ¬ p.1 = j := fun z => e (z.trans e2.symm)
          simp [e2, this]
        · simp [e2]
  unfold putD
  rw [isS]
  by_cases h : (valD ks k).isSome = true
  · rw [if_pos h, rep]
    by_cases e : k = j
    · subst e
      rw [if_pos rfl, if_pos rfl]
      obtain ⟨x, hx⟩ := Option.isSome_iff_exists.mp h
      rw [hx]
      rfl
    · rw [if_neg e, if_neg e]
  · rw [if_neg h, snoc]
    by_cases e : k = j
    · subst e
      simp [h]
    · rw [if_neg e, if_neg e]
      cases valD ks j <;> rfl
end

/-! ### dicts -/
section
variable {K : PySem.W.Frag} {ow : Ow} {dn : Dn} {ta tb td ty tv te : TE} {tr : TA} {d : Dt} {F : Fr} {G H H2 : Hp} {σ : L2.St} {D : Ends} {u : TS}
theorem en_dnew : BW.En K ow dn tDNewK (.dct []) := fun σ G H w Q q p np => q p _ (same_new np) np G (Same.refl G) (w.gh.trans (same_new np)) (fun b o k => .inl k) ⟨w.gh.free np, [], upd_same, .nil⟩
theorem dget_of {G H : Hp} {v : V} {ds : List (Key × Dt)} {k : Key} (e : Same G H) (h : Rp K G v (.dct ds)) : ∃ a vs, v = .ref a ∧ Rd H a (.dK vs) ∧ RpK K G vs ds ∧ DGet H a (kV k) (valV vs k) := by
  obtain ⟨a, vs, rfl, r, q⟩ := h.D
  exact ⟨a, vs, rfl, same_rd e r, q, .inl ⟨vs, k, same_rd e r, rfl, rfl⟩⟩
/-- two readings, then a rule of values -/
theorem two_step {x y : Dt} {R : V → V → Hp → Prop} (w : Wx K ow dn G H σ) (ha : Ed K ow dn ta x) (hb : Ed K ow dn tb y) (h : ∀ v u H2, Same H H2 → Wx K ow dn (xt G H H2) H2 σ → Rp K (xt G H H2) v x → Rp K (xt G H H2) u y → R v u H2) : ta σ H fun v H1 => tb σ H1 fun u H2 => R v u H2 :=
  ha σ G H w _ fun v H1 e1 r1 => hb σ _ H1 (w.ext e1) _ fun u H2 e2 r2 => by
    have w2 := (w.ext e1).ext e2
    have r1' := r1.mono (xt_ge (G := xt G H H1) (H := H1) (H2 := H2) (w.ext e1).gh)
    rw [xt_xt e1 e2] at r1' r2 w2
    exact h v u H2 (e1.trans e2) w2 r1' r2
theorem ed_dget {ds : List (Key × Dt)} {k : Key} (ha : Ed K ow dn td (.dct ds)) (hb : Ed K ow dn ty (kD k)) (h : valD ds k = some d) : Ed K ow dn (tDGet td ty) d := fun σ G H w Q q =>
  two_step w ha hb fun v u H2 e w2 r1 r2 => by
    obtain ⟨a, vs, rfl, rd, rk, dg⟩ := dget_of (k := k) w2.gh r1
    rcases rk.val k with ⟨z, _⟩ | ⟨d', v', h1, h2, h3⟩
    · rw [h] at z; cases z
    · rw [h] at h1
      cases h1
      refine ⟨a, v', rfl, ?_, q v' H2 e h3⟩
      rw [r2.k, ← h2]
      exact dg
theorem ed_inD {ds : List (Key × Dt)} {k : Key} (ha : Ed K ow dn ty (kD k)) (hb : Ed K ow dn td (.dct ds)) : Ed K ow dn (tDIn ty td) (.bl (valD ds k).isSome) := fun σ G H w Q q =>
  two_step w ha hb fun v u H2 e w2 r1 r2 => by
    obtain ⟨a, vs, rfl, rd, rk, dg⟩ := dget_of (k := k) w2.gh r2
    refine ⟨a, _, rfl, by rw [r1.k]; exact dg, q _ H2 e ?_⟩
    rcases rk.val k with ⟨h1, h2⟩ | ⟨d', v', h1, h2, h3⟩
    · rw [h1, h2]; exact .bl _
    · rw [h1, h2]; exact .bl _
theorem ed_niD {ds : List (Key × Dt)} {k : Key} (ha : Ed K ow dn ty (kD k)) (hb : Ed K ow dn td (.dct ds)) : Ed K ow dn (tDNotIn ty td) (.bl (!(valD ds k).isSome)) := fun σ G H w Q q =>
  two_step w ha hb fun v u H2 e w2 r1 r2 => by
    obtain ⟨a, vs, rfl, rd, rk, dg⟩ := dget_of (k := k) w2.gh r2
    refine ⟨a, _, rfl, by rw [r1.k]; exact dg, q _ H2 e ?_⟩
    rcases rk.val k with ⟨h1, h2⟩ | ⟨d', v', h1, h2, h3⟩
    · rw [h1, h2]; exact .bl _
    · rw [h1, h2]; exact .bl _
/-- d[k] = v, d one's own -/
theorem x_dput {j : Nat} {a : Addr} {ds : List (Key × Dt)} {k : Key} (w : Wd K F ow dn G H σ) (hj : ow[j]? = some (a, .dct ds)) (ho : Ed K ow dn td (.adr a)) (hk : Ed K ow dn ty (kD k)) (h : Ed K ow dn tv d) (hz : ds.length < 1000000)
    (c : ∀ G' H', Wd K F (ow.set j (a, .dct (putD ds k d))) dn G' H' σ → D.nx σ H') : sDPut td ty tv D σ H :=
  h σ G H w.wx _ fun v H1 e1 r1 => by
    have w1 := w.ext e1
    refine two_step w1.wx ho hk fun x y H2 e2 w2x r2 r3 => ?_
    have w2 := w1.ext e2
    have z := r2.a
    subst z
    obtain ⟨vs, q, r⟩ := (w2.wx.own _ (List.mem_of_getElem? hj)).2
    have q : H2 a = some (.dK vs) := q
    have r1' := r1.mono (xt_ge (G := xt G H H1) (H := H1) (H2 := H2) w1.wx.gh)
    refine ⟨a, _, rfl, .inl ⟨vs, k, q, r3.k, by rw [r.length]; exact sz_lt hz, rfl⟩, ?_⟩
    exact c _ _ (w2.put hj ⟨(w2.wx.own _ (List.mem_of_getElem? hj)).1, _, upd_same, r.put k r1'⟩)
theorem s_dput {j : Nat} {a : Addr} {ds : List (Key × Dt)} {k : Key} (w : Wd K F ow dn G H σ) (hj : ow[j]? = some (a, .dct ds)) (ho : Ed K ow dn td (.adr a)) (hk : Ed K ow dn ty (kD k)) (h : Ed K ow dn tv d) (hz : ds.length < 1000000)
    (c : ∀ G' H', Wd K F (ow.set j (a, .dct (putD ds k d))) dn G' H' σ → u D σ H') : tSeq (sDPut td ty tv) u D σ H := x_dput w hj ho hk h hz c
end
section
variable {X : Cx}
/-- dict(d) -/
def rDictC : List V → Hp → VK → Prop := fun xs H Q => ∃ a kvs, xs = [.ref a] ∧ Rd H a (.dK kvs) ∧ ∀ p, H p = none → Q (.ref p) (upd H p (.dK kvs))
theorem call_dictC : CallR X (.type "dict") rDictC := by
  intro pins s σ H xs us Q I r h
  obtain ⟨a, kvs, rfl, rd, q⟩ := h
  rw [Vals.ref1 r]
  exact d_copyOf I rd fun p s' np I' => ⟨.ref p, _, I', rfl, q p np⟩
/-- len of a dict -/
def rLenD : List V → Hp → VK → Prop := fun xs H Q => ∃ a kvs, xs = [V.ref a] ∧ Rd H a (.dK kvs) ∧ Q (.int kvs.length) H
theorem call_lenD' : CallR X (.builtin "len") rLenD := by
  intro pins s σ H xs us Q I r h
  obtain ⟨a, kvs, rfl, ha, q⟩ := h
  obtain ⟨u, rfl, ru⟩ := vals1 r
  cases ru
  exact d_len I ha fun t s' I' => ⟨.int kvs.length, H, I', ⟨t, rfl⟩, q⟩
end
section
variable {K : PySem.W.Frag} {ow : Ow} {dn : Dn} {ta tb td ty tv te : TE} {tr : TA} {d : Dt} {F : Fr} {G H H2 : Hp} {σ : L2.St} {D : Ends} {u : TS}
theorem en_dictC {ds : List (Key × Dt)} (h : Ea K ow dn tr [.dct ds]) : BW.En K ow dn (tCB rDictC tr) (.dct ds) := en_cb h fun G H e vs r Q q => by
  obtain ⟨v, rfl, r1⟩ := r.one
  obtain ⟨a, us, rfl, hs, ra⟩ := r1.D
  exact ⟨a, us, rfl, same_rd e hs, fun l nl => q l _ (same_new nl) nl G (Same.refl G) (e.trans (same_new nl)) (fun b o k => .inl k) ⟨e.free nl, us, upd_same, ra⟩⟩
theorem ed_dictC {ds : List (Key × Dt)} (h : Ea K ow dn tr [.dct ds]) : Ed K ow dn (tCB rDictC tr) (.dct ds) := (en_dictC h).ed
theorem ed_lenD {ds : List (Key × Dt)} (h : Ea K ow dn tr [.dct ds]) : Ed K ow dn (tCB rLenD tr) (.int ds.length) := ed_cb h fun G H e vs r Q q => by
  obtain ⟨v, rfl, r1⟩ := r.one
  obtain ⟨a, us, rfl, hs, ra⟩ := r1.D
  refine ⟨a, us, rfl, same_rd e hs, ?_⟩
  rw [ra.length]
  exact q _ H (Same.refl H) (.int _)
/-- int(flag) -/
theorem ed_intB {b : Bool} (h : Ea K ow dn tr [.bl b]) : Ed K ow dn (tCB (fun xs H Q => (∃ i, xs = [.int i] ∧ Q (.int i) H) ∨ ∃ k, xs = [.bl k] ∧ Q (.int (if k then 1 else 0)) H) tr) (.int (if b then 1 else 0)) := ed_cb h fun G H e vs r Q q => by
  obtain ⟨v, rfl, r1⟩ := r.one
  exact .inr ⟨b, by rw [r1.b], q _ H (Same.refl H) (.int _)⟩

/-! ### a store into one's own list -/
theorem x_put {j n : Nat} {a : Addr} {ds : List Dt} {i : Int} (w : Wd K F ow dn G H σ) (hj : ow[j]? = some (a, .lst ds)) (ho : Ed K ow dn ta (.adr a)) (hi : Ed K ow dn tb (.int i)) (h : Ed K ow dn tv d) (hn : ixN ds.length i = some n)
    (c : ∀ G' H', Wd K F (ow.set j (a, .lst (ds.set n d))) dn G' H' σ → D.nx σ H') : tAsg tv (gSub ta tb rSetL) D σ H :=
  h σ G H w.wx _ fun v H1 e1 r1 => by
    have w1 := w.ext e1
    refine two_step w1.wx ho hi fun x y H2 e2 w2x r2 r3 => ?_
    have w2 := w1.ext e2
    have z := r2.a
    subst z
    obtain ⟨vs, q, r⟩ := (w2.wx.own _ (List.mem_of_getElem? hj)).2
    have q : H2 a = some (.lst vs) := q
    have r1' := r1.mono (xt_ge (G := xt G H H1) (H := H1) (H2 := H2) w1.wx.gh)
    refine ⟨a, vs, i, n, rfl, r3.i, q, by rw [r.length]; exact hn, ?_⟩
    exact c _ _ (w2.put hj ⟨(w2.wx.own _ (List.mem_of_getElem? hj)).1, _, upd_same, r.set r1' n⟩)
theorem s_put {j n : Nat} {a : Addr} {ds : List Dt} {i : Int} (w : Wd K F ow dn G H σ) (hj : ow[j]? = some (a, .lst ds)) (ho : Ed K ow dn ta (.adr a)) (hi : Ed K ow dn tb (.int i)) (h : Ed K ow dn tv d) (hn : ixN ds.length i = some n)
    (c : ∀ G' H', Wd K F (ow.set j (a, .lst (ds.set n d))) dn G' H' σ → u D σ H') : tSeq (tAsg tv (gSub ta tb rSetL)) u D σ H := x_put w hj ho hi h hn c
/-- an owned thing is let go -/
theorem Wd.drop (w : Wd K F ow dn G H σ) (j : Nat) : Wd K F (ow.eraseIdx j) dn G H σ :=
  ⟨⟨w.wx.gh, w.wx.en, w.wx.len, fun p hp => w.wx.own p (List.mem_of_mem_eraseIdx hp), w.wx.nd.sublist (List.Sublist.map (·.1) (List.eraseIdx_sublist ow j))⟩, w.hh, w.fp, fun p hp => w.fr p (List.mem_of_mem_eraseIdx hp), w.sb⟩
theorem ix_nat {n : Nat} {i : Int} (h : 0 ≤ i ∧ i < n) : ixN n i = some i.toNat := by
  unfold ixN
  rw [if_pos h.1, if_pos h.2]

/-! ### comprehensions -/
theorem Wx.grow {G' H' : Hp} (w : Wx K ow dn G H σ) (g1 : Same G G') (g2 : Same G' H') (hh : Same H H') (f : ∀ b o, G' b = some o → G b = some o ∨ H b = none) : Wx K ow dn G' H' σ where
  gh := g2
  en := fun i d h => by
    obtain ⟨v, q, r⟩ := w.en i d h
    exact ⟨v, q, r.mono g1⟩
  len := w.len
  own := fun p hp => by
    have h := w.own p hp
    obtain ⟨o, q⟩ := h.there
    refine h.mono g1 ?_ (by rw [q]; exact hh _ _ q)
    cases k : G' p.1 with
    | none => rfl
    | some z =>
      rcases f _ _ k with k | k
      · rw [h.1] at k; cases k
      · rw [q] at k; cases k
  nd := w.nd
theorem Wx.wiped (w : Wx K ow dn G H σ) (i : Nat) : Wx K ow (dn.set i none) G H (wipe σ [i]) where
  gh := w.gh
  en := fun j d h => by
    have hj : i ≠ j := fun e => by
      subst e
      rw [List.getElem?_set, if_pos rfl] at h
      split at h <;> cases h
    rw [List.getElem?_set_ne hj] at h
    obtain ⟨v, q, r⟩ := w.en j d h
    refine ⟨v, ?_, r⟩
    show (σ.set i none)[j]? = _
    rw [List.getElem?_set_ne hj]
    exact q
  len := by
    show (σ.set i none).length = _
    rw [List.length_set, List.length_set]; exact w.len
  own := w.own
  nd := w.nd
theorem wipe_again (σ : L2.St) (i : Nat) (x : Option V) : wipe ((wipe σ [i]).set i x) [i] = wipe σ [i] := by
  show ((σ.set i none).set i x).set i none = σ.set i none
  rw [List.set_set, List.set_set]
/-- the list so far at L, from the heap H on -/
structure Lc (K : PySem.W.Frag) (G H : Hp) (L : Addr) (items : List Dt) (H' : Hp) : Prop where
  ex : ∃ G', Same G G' ∧ Same G' H' ∧ (∀ b o, G' b = some o → G b = some o ∨ H b = none) ∧ OwnOk K G' H' (L, .lst items)
  hh : Same H H'
theorem lc_turn {i : Nat} {L : Addr} {items : List Dt} {H' : Hp} {x : V} {dx : Dt} {b : Bool} {f : Dt} {tt : TT} (w : Wx K ow dn G H σ) (nl : H L = none) (p : Lc K G H L items H') (rx : ∀ G', Same G G' → Rp K G' x dx)
    (ht : Et K ow ((dn.set i none).set i (some dx)) tt b) (he : b = true → Ed K ow ((dn.set i none).set i (some dx)) te f) (hz : items.length < 1000000) {Nx : Hp → Prop} (hn : ∀ H2, Lc K G H L (if b = true then items ++ [f] else items) H2 → Nx H2) :
    tt ((wipe σ [i]).set i (some x)) H' fun b' H3 => if b' = true then te ((wipe σ [i]).set i (some x)) H3 fun y H4 => ∃ acc, H4 L = some (.lst acc) ∧ acc.length < sizeLine ∧ Nx (upd H4 L (.lst (acc ++ [y]))) else Nx H3 := by
  obtain ⟨⟨G', g1, g2, ff, oo⟩, hh⟩ := p
  have w1 : Wx K ow ((dn.set i none).set i (some dx)) G' H' ((wipe σ [i]).set i (some x)) := ((w.grow g1 g2 hh ff).wiped i).set (rx G' g1)
  refine ht _ G' H' w1 _ fun H3 e3 => ?_
  obtain ⟨vs, q, r⟩ := oo.2
  have q : H' L = some (.lst vs) := q
  cases b with
  | false =>
    refine iteF (hn H3 ⟨⟨G', g1, g2.trans e3, ff, oo.1, vs, e3 _ _ q, r⟩, hh.trans e3⟩)
  | true =>
    refine iteT (he rfl _ _ H3 (w1.ext e3) _ fun y H4 e4 r4 => ?_)
    rw [xt_xt e3 e4] at r4
    have e34 := e3.trans e4
    refine ⟨vs, e34 _ _ q, by rw [r.length]; exact sz_lt hz, hn _ ⟨⟨xt G' H' H4, g1.trans (xt_ge g2), fun b o h => ?_, fun b o h => ?_, ?_, _, upd_same, (r.mono (xt_ge g2)).append (.cons r4 .nil)⟩, fun b o h => ?_⟩⟩
    · have k := xt_le g2 e34 b o h
      have hb : b ≠ L := fun z => by
        rw [z, xt_old q] at h
        have := oo.1
        rw [this] at h
        cases h
      rw [upd_ne hb]; exact k
    · cases z : H' b with
      | none => exact .inr (hh.free z)
      | some u =>
        rw [xt_old z] at h
        exact ff b o h
    · show xt G' H' H4 L = none
      rw [xt_old q]; exact oo.1
    · have hb : b ≠ L := fun z => by rw [z, nl] at h; cases h
      rw [upd_ne hb]
      exact e34 b o (hh b o h)
theorem lc_first {L : Addr} (gh : Same G H) (nl : H L = none) : Lc K G H L [] (upd H L (.lst [])) :=
  ⟨⟨G, Same.refl G, gh.trans (same_new nl), fun b o h => .inl h, gh.free nl, [], upd_same, .nil⟩, same_new nl⟩
theorem lc_last {L : Addr} {items : List Dt} {H0 H' : Hp} {Q : VK} (e0 : Same H0 H) (nl : H L = none) (p : Lc K (xt G H0 H) H L items H') (gh : Same G H0)
    (q : ∀ p H2, Same H0 H2 → H0 p = none → ∀ G2, Same G G2 → Same G2 H2 → (∀ b o, G2 b = some o → G b = some o ∨ H0 b = none) → OwnOk K G2 H2 (p, .lst items) → Q (.ref p) H2) : Q (.ref L) H' := by
  obtain ⟨⟨G', g1, g2, ff, oo⟩, hh⟩ := p
  refine q L H' (e0.trans hh) (e0.free nl) G' ((xt_ge gh).trans g1) g2 (fun b o h => ?_) oo
  rcases ff b o h with k | k
  · cases z : H0 b with
    | none => exact .inr rfl
    | some u => rw [xt_old z] at k; exact .inl k
  · exact .inr (e0.free k)
/-- [e for i in range(n) if t] -/
theorem en_lcR {tr : TA} {i : Nat} {n : Int} {tt : TT} (b : Nat → Bool) (f : Nat → Dt) (h : Ea K ow dn tr [.int n]) (hn : 0 ≤ n ∧ n ≤ 900000)
    (ht : ∀ m : Nat, (m : Int) < n → Et K ow ((dn.set i none).set i (some (.int m))) tt (b m)) (he : ∀ m : Nat, (m : Int) < n → b m = true → Ed K ow ((dn.set i none).set i (some (.int m))) te (f m)) :
    BW.En K ow dn (tLc (iRng1 tr) (gName i) tt te [i]) (.lst (((List.range n.toNat).filter b).map f)) := fun σ G H w Q q => by
  refine h σ G H w _ fun vs H1 e1 r1 => ?_
  obtain ⟨v, rfl, r⟩ := r1.one
  have w1 := w.ext e1
  refine ⟨n, by rw [r.i], by omega, by omega, fun L nl => lc_range (lo := 0) (n := n.toNat) (fun m H' => Lc K (xt G H H1) H1 L (((List.range m).filter b).map f) H') (lc_first w1.gh nl) (fun m H' hm p => ?_) (fun H' p => lc_last e1 nl p w.gh q)⟩
  have e0 : (0 : Int) + (m : Int) = (m : Int) := Int.zero_add _
  rw [e0]
  refine ⟨wipe_again σ i _, lc_turn w1 nl p (fun G' _ => .int _) (ht m (by omega)) (he m (by omega)) ?_ fun H2 p2 => ?_⟩
  · rw [List.length_map]
    have := List.length_filter_le b (List.range m)
    rw [List.length_range] at this
    omega
  · have e : ((List.range (m + 1)).filter b).map f = if b m = true then ((List.range m).filter b).map f ++ [f m] else ((List.range m).filter b).map f := by
      rw [List.range_succ, List.filter_append, List.map_append]
      cases hb : b m with
      | true => simp [List.filter_cons, hb]
      | false => simp [List.filter_cons, hb]
    rw [e]
    exact p2
/-- [e for x in xs if t] -/
theorem en_lcL {tl : TE} {i : Nat} {ds : List Dt} {tt : TT} (b : Dt → Bool) (f : Dt → Dt) (h : Ed K ow dn tl (.lst ds)) (hl : ds.length ≤ 900000)
    (ht : ∀ d ∈ ds, Et K ow ((dn.set i none).set i (some d)) tt (b d)) (he : ∀ d ∈ ds, b d = true → Ed K ow ((dn.set i none).set i (some d)) te (f d)) :
    BW.En K ow dn (tLc (iList K tl) (gName i) tt te [i]) (.lst ((ds.filter b).map f)) := fun σ G H w Q q => by
  refine h σ G H w _ fun v H1 e1 r1 => ?_
  obtain ⟨a, vs, rfl, hs, ra⟩ := r1.L
  have w1 := w.ext e1
  refine ⟨a, rfl, ⟨vs, w1.gh.seq hs⟩, fun L nl => lc_list (xs := vs) (fun m H' => Lc K (xt G H H1) H1 L (((ds.take m).filter b).map f) H') (lc_first w1.gh nl) (fun m H' hm p => p.hh.seq (w1.gh.seq hs)) (fun m x H' hx p => ?_) (fun H' p => ?_)⟩
  · obtain ⟨d, hd, rd⟩ := ra.get' hx
    have hm : d ∈ ds := List.mem_of_getElem? hd
    refine ⟨wipe_again σ i _, lc_turn w1 nl p (fun G' g => rd.mono g) (ht d hm) (he d hm) ?_ fun H2 p2 => ?_⟩
    · rw [List.length_map]
      have := List.length_filter_le b (ds.take m)
      rw [List.length_take] at this
      omega
    · have e : ((ds.take (m + 1)).filter b).map f = if b d = true then ((ds.take m).filter b).map f ++ [f d] else ((ds.take m).filter b).map f := by
        rw [List.take_add_one, hd, List.filter_append, List.map_append]
        cases hb : b d with
        | true => simp [List.filter_cons, hb]
        | false => simp [List.filter_cons, hb]
      rw [e]
      exact p2
  · rw [ra.length, List.take_length] at p
    exact lc_last e1 nl p w.gh q
theorem et_yes : Et K ow dn tYes true := fun σ G H w Q q => q H (Same.refl H)

/-! ### texts -/
theorem ed_join {a : Str} {ys : List Str} (h1 : Ed K ow dn ta (.str a)) (h2 : Ed K ow dn tb (.lst (ys.map .str))) (hz : (ys.map (·.length)).sum + ys.length * a.length ≤ 16777216) :
    Ed K ow dn (tM1 (fun x xs H Q => ∃ a p, ∃ ys : List Str, x = .str a ∧ xs = [.ref p] ∧ (SqL K H p (ys.map V.str) ∨ SqT K H p (ys.map V.str)) ∧ (ys.map (·.length)).sum + ys.length * a.length ≤ 16777216 ∧ Q (.str (Txt.join a ys)) H) ta tb) (.str (Txt.join a ys)) := fun σ G H w Q q =>
  h1 σ G H w _ fun v H1 e1 r1 => ⟨⟨a, r1.s⟩, h2 σ _ H1 (w.ext e1) _ fun u H2 e2 r2 => by
    obtain ⟨p, vs, rfl, hs, ra⟩ := r2.L
    rw [ra.strs] at hs
    have w2 := (w.ext e1).ext e2
    exact ⟨a, p, ys, r1.s, rfl, .inl (w2.gh.seq hs), hz, q _ H2 (e1.trans e2) (.str _)⟩⟩
theorem ed_addS {i j : Str} (ha : Ed K ow dn ta (.str i)) (hb : Ed K ow dn tb (.str j)) (hl : i.length + j.length ≤ 1000000) : Ed K ow dn (tOp (fun x y H Q => ∃ i j, x = .str i ∧ y = .str j ∧ i.length + j.length ≤ sizeLine ∧ Q (.str (i ++ j)) H) ta tb) (.str (i ++ j)) :=
  ed_op ha hb fun G H e v u r1 r2 Q q => ⟨i, j, r1.s, r2.s, sz_of hl, q _ H (Same.refl H) (.str _)⟩

/-! ### a written dict of scalars -/
inductive Ep (K : PySem.W.Frag) (ow : Ow) (dn : Dn) : List (TE × TE) → List (Key × Dt) → Prop
  | nil : Ep K ow dn [] []
  | cons {tk tv : TE} {trs : List (TE × TE)} {k : Key} {d : Dt} {ds : List (Key × Dt)} : Ed K ow dn tk (kD k) → Ed K ow dn tv d → d.sc = true → Ep K ow dn trs ds → Ep K ow dn ((tk, tv) :: trs) ((k, d) :: ds)
def mergeD (kvs more : List (Key × Dt)) : List (Key × Dt) := more.foldl (fun acc kv => putD acc kv.1 kv.2) kvs
theorem RpK.merge : ∀ {more : List (Key × V)} {rs : List (Key × Dt)} {kvs : List (Key × V)} {vs : List (Key × Dt)}, RpK K H more rs → RpK K H kvs vs → RpK K H (mergeK kvs more) (mergeD vs rs) := by
  intro more
  induction more with
  | nil => intro rs kvs vs h s; cases h; exact s
  | cons p r ih => intro rs kvs vs h s; cases h with | @cons k v d _ _ a b => have q := ih b (RpK.put s k a); exact q
theorem Ep.run {trs : List (TE × TE)} {ds : List (Key × Dt)} (h : Ep K ow dn trs ds) : ∀ {G H : Hp}, Wx K ow dn G H σ → ∀ Q : List (V × V) → Hp → Prop, (∀ (ks : List (Key × V)) H2, Same H H2 → RpK K G ks ds → Q (ks.map fun kv => (kV kv.1, kv.2)) H2) → tPairs trs σ H Q := by
  induction h with
  | nil => exact fun w Q q => q [] _ (Same.refl _) .nil
  | @cons tk tv trs k d ds hk hv hs _ ih =>
    intro G H w Q q
    refine hk σ G H w _ fun x H1 e1 r1 => hv σ _ H1 (w.ext e1) _ fun y H2 e2 r2 => ?_
    have w2 := (w.ext e1).ext e2
    refine ih w2 _ fun ks H3 e3 rk => ?_
    have e := r1.k
    subst e
    refine q ((k, y) :: ks) H3 ((e1.trans e2).trans e3) (.cons (r2.sc hs) ?_)
    have sc : ∀ {ds : List (Key × Dt)} {ks : List (Key × V)} {G1 G2 : Hp}, RpK K G1 ks ds → (∀ p ∈ ds, p.2.sc = true) → RpK K G2 ks ds := by
      intro ds
      induction ds with
      | nil => intro ks _ _ h _; cases h; exact .nil
      | cons p r ih =>
        intro ks _ _ h hs
        cases h with
        | cons a b => exact .cons (a.sc (hs _ List.mem_cons_self)) (ih b fun q hq => hs q (List.mem_cons_of_mem _ hq))
    rename_i hep
    have all : ∀ p ∈ ds, p.2.sc = true := by
      clear ih rk q
      induction hep with
      | nil => exact fun _ h => (List.not_mem_nil h).elim
      | cons _ _ s _ ih2 => exact fun p hp => (List.mem_cons.mp hp).elim (fun z => by rw [z]; exact s) fun z => ih2 p z
    exact sc rk all
theorem ed_disp {trs : List (TE × TE)} {ds : List (Key × Dt)} (h : Ep K ow dn trs ds) (hl : ds.length ≤ 15 := by exact Nat.le_of_ble_eq_true rfl) : Ed K ow dn (tDisp trs) (.dct (mergeD [] ds)) := fun σ G H w Q q p np => by
  have w1 : Wx K ow dn G (upd H p (.dK [])) σ := w.grow (Same.refl G) (w.gh.trans (same_new np)) (same_new np) fun b o k => .inl k
  refine h.run w1 _ fun ks H2 e2 rk => ⟨e2 p _ upd_same, ks, rfl, by rw [rk.length]; exact hl, ?_⟩
  have e : Same H (upd H2 p (.dK (mergeK [] ks))) := fun b o hb => by
    have nb : b ≠ p := fun z => by rw [z, np] at hb; cases hb
    rw [upd_ne nb]
    exact e2 b o (by rw [upd_ne nb]; exact hb)
  refine q _ _ e (.dct (ks := mergeK [] ks) (.inl ?_) ((rk.merge .nil).mono (xt_ge w.gh)))
  rw [xt_new np]
  exact upd_same
end

/-! ### == of data, dicts among it -/
inductive Eqv : Nat → Dt → Dt → Bool → Prop
  | non {n} : Eqv n .non .non true
  | int {n} (a b : Int) : Eqv n (.int a) (.int b) (a == b)
  | str {n} (a b : Str) : Eqv n (.str a) (.str b) (a == b)
  | bl {n} (a b : Bool) : Eqv n (.bl a) (.bl b) (a == b)
  | nonT {n ds} : Eqv n .non (.tup ds) false
  | tupN {n ds} : Eqv n (.tup ds) .non false
  | nonS {n x} : Eqv n .non (.str x) false
  | strN {n x} : Eqv n (.str x) .non false
  | nonI {n x} : Eqv n .non (.int x) false
  | intN {n x} : Eqv n (.int x) .non false
  | tup {n xs ys} (e : Nat → Bool) : (∀ (j : Nat) x y, xs[j]? = some x → ys[j]? = some y → Eqv n x y (e j)) → Eqv (n + 1) (.tup xs) (.tup ys) ((List.range (min xs.length ys.length)).all e && xs.length == ys.length)
  | lst {n xs ys} (e : Nat → Bool) : xs.length = ys.length → (∀ (j : Nat) x y, xs[j]? = some x → ys[j]? = some y → Eqv n x y (e j)) → Eqv (n + 1) (.lst xs) (.lst ys) ((List.range xs.length).all e)
  | lstL {n xs ys} : xs.length ≠ ys.length → Eqv (n + 1) (.lst xs) (.lst ys) false
  | dct {n xs ys} (e : Key → Bool) : (∀ k x y, (k, x) ∈ xs → valD ys k = some y → Eqv n x y (e k)) → Eqv (n + 1) (.dct xs) (.dct ys) (xs.length == ys.length && xs.all fun p => (valD ys p.1).isSome && e p.1)
section
variable {X : Cx} {pins : List (Addr × Obj)} {σ : L2.St} {H : Hp} {s : Shared}
theorem KV.of_rp : ∀ {vs : List (Key × V)} {ds : List (Key × Dt)} {k : Key} {x : Dt}, RpK X.K H vs ds → (k, x) ∈ ds → ∃ v, (k, v) ∈ vs ∧ Rp X.K H v x
  | _, _, _, _, .nil, h => (List.not_mem_nil h).elim
  | (k0, v0) :: vs, (_, d0) :: ds, k, x, .cons h r, m => by
    rcases List.mem_cons.mp m with e | e
    · have e1 : k = k0 := congrArg Prod.fst e
      have e2 : x = d0 := congrArg Prod.snd e
      subst e1 e2
      exact ⟨v0, List.mem_cons_self, h⟩
    · obtain ⟨v, hv, q⟩ := KV.of_rp r e
      exact ⟨v, List.mem_cons_of_mem _ hv, q⟩
theorem KV.of_rp' : ∀ {vs : List (Key × V)} {ds : List (Key × Dt)} {k : Key} {v : V}, RpK X.K H vs ds → (k, v) ∈ vs → ∃ x, (k, x) ∈ ds ∧ Rp X.K H v x
  | _, _, _, _, .nil, h => (List.not_mem_nil h).elim
  | (k0, v0) :: vs, (_, d0) :: ds, k, v, .cons h r, m => by
    rcases List.mem_cons.mp m with e | e
    · have e1 : k = k0 := congrArg Prod.fst e
      have e2 : v = v0 := congrArg Prod.snd e
      subst e1 e2
      exact ⟨d0, List.mem_cons_self, h⟩
    · obtain ⟨x, hx, q⟩ := KV.of_rp' r e
      exact ⟨x, List.mem_cons_of_mem _ hx, q⟩
/-- one value stands for both: they are equal -/
theorem Eqv.one (I : Inv X pins σ H s) {n : Nat} {d e : Dt} {b : Bool} (h : Eqv n d e b) : ∀ {v : V}, Rp X.K H v d → Rp X.K H v e → b = true := by
  induction h with
  | non => exact fun _ _ => rfl
  | int a b => intro v r1 r2; have := r1.i.symm.trans r2.i; cases this; exact beq_self_eq_true a
  | str a b => intro v r1 r2; have := r1.s.symm.trans r2.s; cases this; exact beq_self_eq_true a
  | bl a b => intro v r1 r2; have := r1.b.symm.trans r2.b; cases this; exact beq_self_eq_true a
  | nonT => intro v r1 r2; have := r1.n; subst this; cases r2
  | tupN => intro v r1 r2; have := r2.n; subst this; cases r1
  | nonS => intro v r1 r2; have := r1.n; subst this; cases r2
  | strN => intro v r1 r2; have := r2.n; subst this; cases r1
  | nonI => intro v r1 r2; have := r1.n; subst this; cases r2
  | intN => intro v r1 r2; have := r2.n; subst this; cases r1
  | @tup n xs ys e _ ih =>
    intro v r1 r2
    obtain ⟨a, vs, rfl, h1, ra⟩ := r1.T
    obtain ⟨a', us, q, h2, rb⟩ := r2.T
    cases q
    have := I.tuple_inj h1 h2
    subst this
    have hl : xs.length = ys.length := ra.length.symm.trans rb.length
    rw [Bool.and_eq_true, List.all_eq_true]
    refine ⟨fun j hj => ?_, by rw [hl]; exact beq_self_eq_true _⟩
    have hj' : j < xs.length := by have := List.mem_range.mp hj; omega
    obtain ⟨v, hv, rv⟩ := ra.get (List.getElem?_eq_getElem hj')
    obtain ⟨v', hv', rv'⟩ := rb.get (List.getElem?_eq_getElem (hl ▸ hj'))
    rw [hv] at hv'
    cases hv'
    exact ih j _ _ (List.getElem?_eq_getElem hj') (List.getElem?_eq_getElem (hl ▸ hj')) rv rv'
  | @lst n xs ys e hl _ ih =>
    intro v r1 r2
    obtain ⟨a, vs, rfl, h1, ra⟩ := r1.L
    obtain ⟨a', us, q, h2, rb⟩ := r2.L
    cases q
    have := I.list_inj h1 h2
    subst this
    rw [List.all_eq_true]
    intro j hj
    have hj' : j < xs.length := List.mem_range.mp hj
    obtain ⟨v, hv, rv⟩ := ra.get (List.getElem?_eq_getElem hj')
    obtain ⟨v', hv', rv'⟩ := rb.get (List.getElem?_eq_getElem (hl ▸ hj'))
    rw [hv] at hv'
    cases hv'
    exact ih j _ _ (List.getElem?_eq_getElem hj') (List.getElem?_eq_getElem (hl ▸ hj')) rv rv'
  | @lstL n xs ys hl =>
    intro v r1 r2
    obtain ⟨a, vs, rfl, h1, ra⟩ := r1.L
    obtain ⟨a', us, q, h2, rb⟩ := r2.L
    cases q
    have := I.list_inj h1 h2
    subst this
    exact absurd (ra.length.symm.trans rb.length) hl
  | @dct n xs ys e _ ih =>
    intro v r1 r2
    obtain ⟨a, vs, rfl, h1, ra⟩ := r1.D
    obtain ⟨a', us, q, h2, rb⟩ := r2.D
    cases q
    have : vs = us := by
      rcases h1 with h1 | ⟨o1, h1⟩ <;> rcases h2 with h2 | ⟨o2, h2⟩ <;> rw [h1] at h2 <;> cases h2 <;> rfl
    subst this
    rw [Bool.and_eq_true, List.all_eq_true]
    refine ⟨by rw [← ra.length, rb.length]; exact beq_self_eq_true _, fun p hp => ?_⟩
    obtain ⟨k, x⟩ := p
    obtain ⟨v1, hv1, rv1⟩ := KV.of_rp ra hp
    -- the first of the key
    have hsome : ∃ v0, valV vs k = some v0 := by
      have q : (vs.any fun kv => decide (kv.1 = k)) = true := List.any_eq_true.mpr ⟨(k, v1), hv1, decide_eq_true rfl⟩
      rw [valV_any] at q
      exact Option.isSome_iff_exists.mp q
    obtain ⟨v0, hv0⟩ := hsome
    rcases ra.val k with ⟨_, z⟩ | ⟨x0, v0', q1, q2, q3⟩
    · rw [hv0] at z; cases z
    rcases rb.val k with ⟨_, z⟩ | ⟨y0, v0'', q4, q5, q6⟩
    · rw [hv0] at z; cases z
    rw [hv0] at q2 q5
    cases q2
    cases q5
    have hx0 : (k, x0) ∈ xs := by
      unfold valD at q1
      obtain ⟨p, hp2, e2⟩ := Option.map_eq_some_iff.mp q1
      have h3 := List.find?_some hp2
      have h4 := List.mem_of_find?_eq_some hp2
      have h3' : p.1 = k := of_decide_eq_true h3
      obtain ⟨p1, p2⟩ := p
      have h3'' : p1 = k := h3'
      have e2' : p2 = x0 := e2
      rw [← h3'', ← e2']; exact h4
    have := ih k x0 y0 hx0 q4 q3 q6
    show ((valD ys k).isSome && e k) = true
    rw [q4, this]
    rfl
theorem kv_back {k : Key} {x' : Value} : ∀ {l1 : List (Key × V)} {l2 : List (Key × Value)}, Paired (fun (p : Key × V) (q : Key × Value) => p.1 = q.1 ∧ RelV p.2 q.2) l1 l2 → (k, x') ∈ l2 → ∃ v', (k, v') ∈ l1 ∧ RelV v' x' := by
  intro l1 l2 h
  induction h with
  | nil => exact fun h => (List.not_mem_nil h).elim
  | @cons p q _ _ h _ ih3 =>
    intro hm
    rcases List.mem_cons.mp hm with z | z
    · obtain ⟨p1, p2⟩ := p
      have z1 : k = q.1 := congrArg Prod.fst z
      have z2 : x' = q.2 := congrArg Prod.snd z
      refine ⟨p2, ?_, by rw [z2]; exact h.2⟩
      have : p1 = k := h.1.trans z1.symm
      rw [← this]
      exact List.mem_cons_self
    · obtain ⟨v', a1, a2⟩ := ih3 z
      exact ⟨v', List.mem_cons_of_mem _ a1, a2⟩
/-- what == of two dicts needs -/
theorem dct_key (I : Inv X pins σ H s) {n : Nat} {a a' : Addr} {vs us : List (Key × V)} {xs ys : List (Key × Dt)} {e : Key → Bool} (h1 : Rd H a (.dK vs)) (h2 : Rd H a' (.dK us)) (ra : RpK X.K H vs xs) (rb : RpK X.K H us ys)
    (ih : ∀ k x y, (k, x) ∈ xs → valD ys k = some y → ∀ {v u : V} {x' y' : Value}, Rp X.K H v x → Rp X.K H u y → RelV v x' → RelV u y' → PySem.W.EqTree X.prog X.w s n x' y' (e k)) :
    ∃ ka kb, (a == sysModules) = false ∧ (a' == sysModules) = false ∧ s.heap.DictOf (mixKind X.prog X.w) a ka ∧ s.heap.DictOf (mixKind X.prog X.w) a' kb ∧ (ka.length == kb.length && ka.all fun p => (valueAt kb p.1).isSome && e p.1) = (xs.length == ys.length && xs.all fun p => (valD ys p.1).isSome && e p.1) ∧ ∀ k v y, (k, v) ∈ ka → valueAt kb k = some y → PySem.W.EqTree X.prog X.w s n v y (e k) := by
  obtain ⟨_, y1, ka, rel1, da⟩ := dk_rd I.hok h1
  obtain ⟨_, y2, kb, rel2, db⟩ := dk_rd I.hok h2
  have hb : ∀ k, (valueAt kb k).isSome = (valD ys k).isSome := fun k => by
    have q := rel2.val k
    rcases rb.val k with ⟨z1, z2⟩ | ⟨y0, u0, z1, z2, z3⟩
    · rw [z2] at q; rw [z1, q.none_of]; rfl
    · rw [z2] at q
      obtain ⟨w0, e0, _⟩ := q.some_of
      rw [z1, e0]; rfl
  have e1 : ka.length = xs.length := by rw [← rel1.length, ra.length]
  have e2 : kb.length = ys.length := by rw [← rel2.length, rb.length]
  have e3 : (ka.all fun p => (valueAt kb p.1).isSome && e p.1) = xs.all fun p => (valD ys p.1).isSome && e p.1 := by
    have m1 : ka.map (·.1) = xs.map (·.1) := rel1.keys.symm.trans ra.keys
    have t1 : ka.all (fun p => (valueAt kb p.1).isSome && e p.1) = (ka.map (·.1)).all fun k => (valueAt kb k).isSome && e k := by rw [List.all_map]; rfl
    have t2 : xs.all (fun p => (valD ys p.1).isSome && e p.1) = (xs.map (·.1)).all fun k => (valD ys k).isSome && e k := by rw [List.all_map]; rfl
    rw [t1, t2, m1]
    exact congrArg _ (funext fun k => by rw [hb k])
  refine ⟨ka, kb, y1, y2, da, db, by rw [e1, e2, e3], fun k x' y' hm hv => ?_⟩
  obtain ⟨v', hv', rv'⟩ := kv_back rel1 hm
  obtain ⟨x0, hx0, rx0⟩ := KV.of_rp' ra hv'
  have q := rel2.val k
  rcases rb.val k with ⟨z1, z2⟩ | ⟨y0, u0, z1, z2, z3⟩
  · rw [z2, hv] at q
    exact q.elim
  · rw [z2] at q
    obtain ⟨w0, e0, rw0⟩ := q.some_of
    rw [hv] at e0
    cases e0
    exact ih k x0 y0 hx0 z1 rx0 z3 rv' rw0
theorem Eqv.tree (I : Inv X pins σ H s) {n : Nat} {d e : Dt} {b : Bool} (h : Eqv n d e b) : ∀ {v u : V} {x y : Value}, Rp X.K H v d → Rp X.K H u e → RelV v x → RelV u y → PySem.W.EqTree X.prog X.w s n x y b := by
  induction h with
  | non => intro v u x y r1 r2 q1 q2; rw [r1.n] at q1; rw [r2.n] at q2; cases q1; cases q2; exact .same
  | int a b => intro v u x y r1 r2 q1 q2; rw [r1.i] at q1; rw [r2.i] at q2; obtain ⟨t, rfl⟩ := q1; obtain ⟨t', rfl⟩ := q2; exact .leaf fun A _ => SeqAt.EqAt.int_int a t b t'
  | str a b => intro v u x y r1 r2 q1 q2; rw [r1.s] at q1; rw [r2.s] at q2; obtain ⟨t, rfl⟩ := q1; obtain ⟨t', rfl⟩ := q2; exact .leaf fun A _ => SeqAt.EqAt.str_str a t b t'
  | bl a b => intro v u x y r1 r2 q1 q2; rw [r1.b] at q1; rw [r2.b] at q2; cases q1; cases q2; exact .leaf fun A _ => SeqAt.EqAt.bool_bool a b
  | nonT =>
    intro v u x y r1 r2 q1 q2
    rw [r1.n] at q1
    cases q1
    obtain ⟨a, vs, rfl, h1, _⟩ := r2.T
    cases q2
    obtain ⟨its, _, ht, _⟩ := I.tuple h1
    exact .leaf fun A hu => SeqAt.EqAt.none_tuple (show s.heap.IsTuple a its.toArray from ht) (by omega)
  | tupN =>
    intro v u x y r1 r2 q1 q2
    rw [r2.n] at q2
    cases q2
    obtain ⟨a, vs, rfl, h1, _⟩ := r1.T
    cases q1
    obtain ⟨its, _, ht, _⟩ := I.tuple h1
    exact .leaf fun A hu => SeqAt.EqAt.tuple_none (show s.heap.IsTuple a its.toArray from ht) (by omega)
  | nonS => intro v u x y r1 r2 q1 q2; rw [r1.n] at q1; rw [r2.s] at q2; cases q1; obtain ⟨t', rfl⟩ := q2; exact .leaf fun A _ => SeqAt.EqAt.none_str _ t'
  | strN => intro v u x y r1 r2 q1 q2; rw [r1.s] at q1; rw [r2.n] at q2; cases q2; obtain ⟨t', rfl⟩ := q1; exact .leaf fun A _ => SeqAt.EqAt.str_none _ t'
  | nonI => intro v u x y r1 r2 q1 q2; rw [r1.n] at q1; rw [r2.i] at q2; cases q1; obtain ⟨t', rfl⟩ := q2; exact .leaf fun A _ => SeqAt.EqAt.none_int _ t'
  | intN => intro v u x y r1 r2 q1 q2; rw [r1.i] at q1; rw [r2.n] at q2; cases q2; obtain ⟨t', rfl⟩ := q1; exact .leaf fun A _ => SeqAt.EqAt.int_none _ t'
  | @tup n xs ys e hh ih =>
    intro v u x y r1 r2 q1 q2
    obtain ⟨a, vs, rfl, h1, ra⟩ := id r1.T
    obtain ⟨a', us, rfl, h2, rb⟩ := id r2.T
    cases q1
    cases q2
    by_cases ea : a = a'
    · subst ea
      rw [Eqv.one I (.tup e hh) r1 r2]
      exact .same
    obtain ⟨its, rv, ht, _⟩ := I.tuple h1
    obtain ⟨its', rv', ht', _⟩ := I.tuple h2
    have e1 : its.toArray.size = xs.length := by rw [List.size_toArray, ← rv.length, ra.length]
    have e2 : its'.toArray.size = ys.length := by rw [List.size_toArray, ← rv'.length, rb.length]
    rw [← e1, ← e2]
    refine .tuples ea (show s.heap.IsTuple a its.toArray from ht) (show s.heap.IsTuple a' its'.toArray from ht') fun j j1 j2 => ?_
    have k1 : j < xs.length := by omega
    have k2 : j < ys.length := by omega
    obtain ⟨v, hv, rx⟩ := ra.get (List.getElem?_eq_getElem k1)
    obtain ⟨u, hu, ry⟩ := rb.get (List.getElem?_eq_getElem k2)
    obtain ⟨z, hz, rz⟩ := rv.get hv
    obtain ⟨z', hz', rz'⟩ := rv'.get hu
    have f1 : its.toArray[j] = z := by
      have := List.getElem?_eq_some_iff.mp hz
      obtain ⟨_, h⟩ := this
      simpa using h
    have f2 : its'.toArray[j] = z' := by
      have := List.getElem?_eq_some_iff.mp hz'
      obtain ⟨_, h⟩ := this
      simpa using h
    rw [f1, f2]
    exact ih j _ _ (List.getElem?_eq_getElem k1) (List.getElem?_eq_getElem k2) rx ry rz rz'
  | @lst n xs ys e hl hh ih =>
    intro v u x y r1 r2 q1 q2
    obtain ⟨a, vs, rfl, h1, ra⟩ := id r1.L
    obtain ⟨a', us, rfl, h2, rb⟩ := id r2.L
    cases q1
    cases q2
    by_cases ea : a = a'
    · subst ea
      rw [Eqv.one I (.lst e hl hh) r1 r2]
      exact .same
    obtain ⟨its, rv, ht, _⟩ := I.list h1
    obtain ⟨its', rv', ht', _⟩ := I.list h2
    have e1 : its.toArray.size = xs.length := by rw [List.size_toArray, ← rv.length, ra.length]
    have e2 : its'.toArray.size = ys.length := by rw [List.size_toArray, ← rv'.length, rb.length]
    rw [← e1]
    refine .lists ea ht.isList ht'.isList (by omega) fun j j1 j2 => ?_
    have k1 : j < xs.length := by omega
    have k2 : j < ys.length := by omega
    obtain ⟨v, hv, rx⟩ := ra.get (List.getElem?_eq_getElem k1)
    obtain ⟨u, hu, ry⟩ := rb.get (List.getElem?_eq_getElem k2)
    obtain ⟨z, hz, rz⟩ := rv.get hv
    obtain ⟨z', hz', rz'⟩ := rv'.get hu
    have f1 : its.toArray[j] = z := by
      obtain ⟨_, h⟩ := List.getElem?_eq_some_iff.mp hz
      simpa using h
    have f2 : its'.toArray[j] = z' := by
      obtain ⟨_, h⟩ := List.getElem?_eq_some_iff.mp hz'
      simpa using h
    rw [f1, f2]
    exact ih j _ _ (List.getElem?_eq_getElem k1) (List.getElem?_eq_getElem k2) rx ry rz rz'
  | @lstL n xs ys hl =>
    intro v u x y r1 r2 q1 q2
    obtain ⟨a, vs, rfl, h1, ra⟩ := id r1.L
    obtain ⟨a', us, rfl, h2, rb⟩ := id r2.L
    cases q1
    cases q2
    by_cases ea : a = a'
    · subst ea
      have := I.list_inj h1 h2
      subst this
      exact absurd (ra.length.symm.trans rb.length) hl
    obtain ⟨its, rv, ht, _⟩ := I.list h1
    obtain ⟨its', rv', ht', _⟩ := I.list h2
    have e1 : its.toArray.size = xs.length := by rw [List.size_toArray, ← rv.length, ra.length]
    have e2 : its'.toArray.size = ys.length := by rw [List.size_toArray, ← rv'.length, rb.length]
    refine .listsLen ea ht.isList ht'.isList ?_
    rw [e1, e2]
    simpa using hl
  | @dct n xs ys e hh ih =>
    intro v u x y r1 r2 q1 q2
    obtain ⟨a, vs, rfl, h1, ra⟩ := id r1.D
    obtain ⟨a', us, rfl, h2, rb⟩ := id r2.D
    cases q1
    cases q2
    by_cases ea : a = a'
    · subst ea
      rw [Eqv.one I (.dct e hh) r1 r2]
      exact .same
    obtain ⟨ka, kb, y1, y2, da, db, ee, t⟩ := dct_key I h1 h2 ra rb ih
    rw [← ee]
    exact .dicts ea y1 y2 da db t
end
section
variable {X : Cx}
/-- x == y of two tuples, two lists, two dicts -/
def rEqX (K : PySem.W.Frag) : R2 := fun x y H Q => ∃ d e n b, Rp K H x d ∧ Rp K H y e ∧ Eqv (n + 1) d e b ∧ n ≤ 50 ∧ d.sc = false ∧ e.sc = false ∧ Q (.bl b) H
theorem op_eqX (hu : X.A.units + 64 < cLine) : OpR X (compareOp .Eq) (rEqX X.K) := by
  intro pins s σ H x y v u Q I rx ry h
  obtain ⟨d, e, n, b, r1, r2, h, hn, s1, s2, q⟩ := h
  have fin : EP X pins σ Q (.bool b) s := ⟨.bl b, H, I, rfl, q⟩
  have T := Eqv.tree I h r1 r2 rx ry
  cases h with
  | non => cases s1
  | int _ _ => cases s1
  | str _ _ => cases s1
  | bl _ _ => cases s1
  | nonT => cases s1
  | tupN => cases s2
  | nonS => cases s1
  | strN => cases s1
  | nonI => cases s1
  | intN => cases s1
  | @tup _ xs ys e hh =>
    obtain ⟨a, vs, rfl, h1, ra⟩ := r1.T
    obtain ⟨a', us, rfl, h2, rb⟩ := r2.T
    cases rx
    cases ry
    obtain ⟨its, rv, ht, _⟩ := I.tuple h1
    obtain ⟨its', rv', ht', _⟩ := I.tuple h2
    have e1 : its.toArray.size = xs.length := by rw [List.size_toArray, ← rv.length, ra.length]
    have e2 : its'.toArray.size = ys.length := by rw [List.size_toArray, ← rv'.length, rb.length]
    refine PySem.W.eq_tuplesT (n := n) (e := e) (show s.heap.IsTuple a its.toArray from ht) (show s.heap.IsTuple a' its'.toArray from ht') (fun j j1 j2 => ?_) (by omega) (by rw [e1, e2]; exact fin)
    have k1 : j < xs.length := by omega
    have k2 : j < ys.length := by omega
    obtain ⟨v, hv, rx⟩ := ra.get (List.getElem?_eq_getElem k1)
    obtain ⟨u, hu, ry⟩ := rb.get (List.getElem?_eq_getElem k2)
    obtain ⟨z, hz, rz⟩ := rv.get hv
    obtain ⟨z', hz', rz'⟩ := rv'.get hu
    have f1 : its.toArray[j] = z := by
      obtain ⟨_, h⟩ := List.getElem?_eq_some_iff.mp hz
      simpa using h
    have f2 : its'.toArray[j] = z' := by
      obtain ⟨_, h⟩ := List.getElem?_eq_some_iff.mp hz'
      simpa using h
    rw [f1, f2]
    exact Eqv.tree I (hh j _ _ (List.getElem?_eq_getElem k1) (List.getElem?_eq_getElem k2)) rx ry rz rz'
  | @lst _ xs ys e hl hh =>
    obtain ⟨a, vs, rfl, h1, ra⟩ := r1.L
    obtain ⟨a', us, rfl, h2, rb⟩ := r2.L
    cases rx
    cases ry
    obtain ⟨its, rv, ht, _⟩ := I.list h1
    obtain ⟨its', rv', ht', _⟩ := I.list h2
    have e1 : its.toArray.size = xs.length := by rw [List.size_toArray, ← rv.length, ra.length]
    have e2 : its'.toArray.size = ys.length := by rw [List.size_toArray, ← rv'.length, rb.length]
    refine PySem.W.eq_listsT (n := n) (e := e) ht.isList ht'.isList (by omega) (fun j j1 j2 => ?_) (by omega) (by rw [e1]; exact fin)
    have k1 : j < xs.length := by omega
    have k2 : j < ys.length := by omega
    obtain ⟨v, hv, rx⟩ := ra.get (List.getElem?_eq_getElem k1)
    obtain ⟨u, hu, ry⟩ := rb.get (List.getElem?_eq_getElem k2)
    obtain ⟨z, hz, rz⟩ := rv.get hv
    obtain ⟨z', hz', rz'⟩ := rv'.get hu
    have f1 : its.toArray[j] = z := by
      obtain ⟨_, h⟩ := List.getElem?_eq_some_iff.mp hz
      simpa using h
    have f2 : its'.toArray[j] = z' := by
      obtain ⟨_, h⟩ := List.getElem?_eq_some_iff.mp hz'
      simpa using h
    rw [f1, f2]
    exact Eqv.tree I (hh j _ _ (List.getElem?_eq_getElem k1) (List.getElem?_eq_getElem k2)) rx ry rz rz'
  | @lstL _ xs ys hl =>
    obtain ⟨a, vs, rfl, h1, ra⟩ := r1.L
    obtain ⟨a', us, rfl, h2, rb⟩ := r2.L
    cases rx
    cases ry
    obtain ⟨its, rv, ht, _⟩ := I.list h1
    obtain ⟨its', rv', ht', _⟩ := I.list h2
    have e1 : its.toArray.size = xs.length := by rw [List.size_toArray, ← rv.length, ra.length]
    have e2 : its'.toArray.size = ys.length := by rw [List.size_toArray, ← rv'.length, rb.length]
    exact (SeqAt.RcAt.lists_lengths ht.isList ht'.isList (by rw [e1, e2]; simpa using hl) (by omega)) X.prog X.w _ _ fin
  | @dct _ xs ys e hh =>
    obtain ⟨a, vs, rfl, h1, ra⟩ := r1.D
    obtain ⟨a', us, rfl, h2, rb⟩ := r2.D
    cases rx
    cases ry
    obtain ⟨ka, kb, y1, y2, da, db, ee, t⟩ := dct_key I h1 h2 ra rb fun k x y m1 m2 => Eqv.tree I (hh k x y m1 m2)
    exact PySem.W.eq_dictsT y1 y2 da db t (by omega) (by rw [ee]; exact fin)
end
section
variable {K : PySem.W.Frag} {ow : Ow} {dn : Dn} {ta tb te : TE} {x y : Dt}
theorem ed_eqX {n : Nat} {b : Bool} (ha : Ed K ow dn ta x) (hb : Ed K ow dn tb y) (h : Eqv (n + 1) x y b) (hn : n ≤ 50 := by decide) (sx : x.sc = false := by rfl) (sy : y.sc = false := by rfl) : Ed K ow dn (tOp (rEqX K) ta tb) (.bl b) :=
  ed_op ha hb fun G H e v u r1 r2 Q q => ⟨x, y, n, b, r1.mono e, r2.mono e, h, hn, sx, sy, q _ H (Same.refl H) (.bl _)⟩
theorem Wd.ow_is {F : Fr} {G H : Hp} {σ : L2.St} {ow' : Ow} (w : Wd K F ow dn G H σ) (e : ow = ow') : Wd K F ow' dn G H σ := by rw [← e]; exact w
theorem Wd.dn_is {F : Fr} {G H : Hp} {σ : L2.St} {dn' : Dn} (w : Wd K F ow dn G H σ) (e : dn = dn') : Wd K F ow dn' G H σ := by rw [← e]; exact w
theorem en_is {ob ob' : Ob} (h : BW.En K ow dn te ob) (e : ob = ob') : BW.En K ow dn te ob' := by rw [← e]; exact h
theorem ob_all {f : Nat → Dt} {n : Nat} : Ob.lst (((List.range n).filter fun _ => true).map f) = .lst ((List.range n).map f) := by
  have : (List.range n).filter (fun _ => true) = List.range n := List.filter_eq_self.mpr fun _ _ => rfl
  rw [this]
end
end BW

set_option Elab.async false
set_option linter.all false
set_option maxRecDepth 100000
set_option maxHeartbeats 4000000
/-! BW7: loops over dicts (under the lock), reads of one's own things, zips, sorted ints, != of dicts, sums of tuples. -/
namespace BW
open PySem L2 PySem.Spec PyProof.Rows

/-! ### what is read stays readable, locked or not -/
inductive Pl : HO → Prop
  | tup (xs : List V) : Pl (.tup xs)
  | lst (xs : List V) : Pl (.lst xs)
  | dK (ks : List (Key × V)) : Pl (.dK ks)
structure Keep (G G' : Hp) : Prop where
  rd : ∀ a u, Pl u → Rd G a u → Rd G' a u
  ins : ∀ a C dx fs, G a = some (.ins C dx fs) → G' a = some (.ins C dx fs)
section
variable {K : PySem.W.Frag} {H H' : Hp}
theorem Keep.t {a : Addr} {xs : List V} (e : Keep H H') (h : SqT K H a xs) : SqT K H' a xs := by
  rcases h with h | h
  · exact .inl (e.rd _ _ (.tup _) h)
  · exact .inr h
theorem Keep.l {a : Addr} {xs : List V} (e : Keep H H') (h : SqL K H a xs) : SqL K H' a xs := by
  rcases h with h | h
  · exact .inl (e.rd _ _ (.lst _) h)
  · exact .inr h
mutual
theorem Rp.keep (e : Keep H H') : ∀ {v : V} {d : Dt}, Rp K H v d → Rp K H' v d
  | _, _, .non => .non
  | _, _, .bl b => .bl b
  | _, _, .int i => .int i
  | _, _, .str x => .str x
  | _, _, .ty n => .ty n
  | _, _, .adr a => .adr a
  | _, _, .tup h r => .tup (e.t h) (RpA.keep e r)
  | _, _, .lst h r => .lst (e.l h) (RpA.keep e r)
  | _, _, .dct h r => .dct (e.rd _ _ (.dK _) h) (RpK.keep e r)
  | _, _, .ins h r => .ins (e.ins _ _ _ _ h) (RpF.keep e r)
theorem RpA.keep (e : Keep H H') : ∀ {vs : List V} {ds : List Dt}, RpA K H vs ds → RpA K H' vs ds
  | _, _, .nil => .nil
  | _, _, .cons h r => .cons (Rp.keep e h) (RpA.keep e r)
theorem RpK.keep (e : Keep H H') : ∀ {vs : List (Key × V)} {ds : List (Key × Dt)}, RpK K H vs ds → RpK K H' vs ds
  | _, _, .nil => .nil
  | _, _, .cons h r => .cons (Rp.keep e h) (RpK.keep e r)
theorem RpF.keep (e : Keep H H') : ∀ {vs : List (Str × V)} {ds : List (Str × Dt)}, RpF K H vs ds → RpF K H' vs ds
  | _, _, .nil => .nil
  | _, _, .cons h r => .cons (Rp.keep e h) (RpF.keep e r)
end
theorem Keep.lock {d : Addr} {vs : List (Key × V)} {od : Obj} (h : H d = some (.dK vs)) : Keep H (upd H d (.frz od (.dK vs))) where
  rd := fun a u _ r => by
    by_cases e : a = d
    · subst e
      rcases r with r | ⟨o, r⟩
      · rw [h] at r; cases r; exact .inr ⟨od, upd_same⟩
      · rw [h] at r; cases r
    · rcases r with r | ⟨o, r⟩
      · exact .inl (by rw [upd_ne e]; exact r)
      · exact .inr ⟨o, by rw [upd_ne e]; exact r⟩
  ins := fun a C dx fs r => by
    by_cases e : a = d
    · subst e; rw [h] at r; cases r
    · rw [upd_ne e]; exact r
theorem Keep.unlock {d : Addr} {vs : List (Key × V)} {od : Obj} (h : H d = some (.frz od (.dK vs))) : Keep H (upd H d (.dK vs)) where
  rd := fun a u p r => by
    by_cases e : a = d
    · subst e
      rcases r with r | ⟨o, r⟩
      · rw [h] at r; cases r; cases p
      · rw [h] at r; cases r; exact .inl upd_same
    · rcases r with r | ⟨o, r⟩
      · exact .inl (by rw [upd_ne e]; exact r)
      · exact .inr ⟨o, by rw [upd_ne e]; exact r⟩
  ins := fun a C dx fs r => by
    by_cases e : a = d
    · subst e; rw [h] at r; cases r
    · rw [upd_ne e]; exact r
theorem OwnOk.keep {G G' : Hp} {p : Addr × Ob} (h : OwnOk K G H p) (e : Keep G G') (n : G' p.1 = none) (f : H' p.1 = H p.1) : OwnOk K G' H' p := by
  obtain ⟨a, ob⟩ := p
  obtain ⟨_, h⟩ := h
  refine ⟨n, ?_⟩
  cases ob with
  | lst ds =>
    obtain ⟨vs, q, r⟩ := h
    exact ⟨vs, f.trans q, r.keep e⟩
  | dct ds =>
    obtain ⟨vs, q, r⟩ := h
    exact ⟨vs, f.trans q, r.keep e⟩
  | ins C ds =>
    obtain ⟨dx, fs, q, r⟩ := h
    exact ⟨dx, fs, f.trans q, r.keep e⟩
end

/-! ### for k in d -/
def Rt (K : PySem.W.Frag) (F : Fr) (D : Ends) (d : Dt) : Prop := ∀ v H', SamX F.M F.H0 H' → Rp K (xt F.G0 F.H0 H') v d → D.rt v H'
section
variable {K : PySem.W.Frag} {F : Fr} {ow : Ow} {dn : Dn} {G H H2 : Hp} {σ : L2.St} {d : Dt} {te ta tb : TE} {tt : TT} {D : Ends} {t u : TS}
theorem rp_key (k : Key) : Rp K H (kV k) (kD k) := by
  cases k with
  | inl i => exact .int i
  | inr x => exact .str x
/-- the frame within the lock -/
def frL (ow : Ow) (B G H : Hp) : Fr := ⟨ow.map (·.1), B, G, H⟩
theorem Wd.lock {a : Addr} {vs : List (Key × V)} (w : Wd K F ow dn G H σ) (ha : G a = some (.dK vs)) (od : Obj) : Wd K (frL ow (upd G a (.frz od (.dK vs))) (upd G a (.frz od (.dK vs))) (upd H a (.frz od (.dK vs)))) ow dn (upd G a (.frz od (.dK vs))) (upd H a (.frz od (.dK vs))) σ where
  wx := {
    gh := fun b o h => by
      by_cases e : b = a
      · subst e; rw [upd_same] at h ⊢; exact h
      · rw [upd_ne e] at h ⊢; exact w.wx.gh b o h
    en := fun i d h => by
      obtain ⟨v, q, r⟩ := w.wx.en i d h
      exact ⟨v, q, r.keep (Keep.lock ha)⟩
    len := w.wx.len
    own := fun p hp => by
      have h := w.wx.own p hp
      have e : p.1 ≠ a := fun z => by have := h.1; rw [z, ha] at this; cases this
      exact h.keep (Keep.lock ha) (by rw [upd_ne e]; exact h.1) (by rw [upd_ne e])
    nd := w.wx.nd }
  hh := SamX.of (Same.refl _)
  fp := fun b o h => .inl h
  fr := fun p hp => .inr (List.mem_map.mpr ⟨p, hp, rfl⟩)
  sb := Same.refl _
/-- what the lock's frame says of the heap before -/
theorem unlock_hh {a : Addr} {vs : List (Key × V)} {od : Obj} {H' : Hp} (w : Wd K F ow dn G H σ) (ha : G a = some (.dK vs)) (s : SamX (ow.map (·.1)) (upd H a (.frz od (.dK vs))) H') : SamX F.M F.H0 (upd H' a (.dK vs)) ∧ H' a = some (.frz od (.dK vs)) ∧ ∀ b o, b ≠ a → b ∉ ow.map (·.1) → H b = some o → H' b = some o := by
  have na : a ∉ ow.map (·.1) := fun z => by
    obtain ⟨p, hp, e⟩ := List.mem_map.mp z
    have e : p.1 = a := e
    have := (w.wx.own p hp).1
    rw [e, ha] at this
    cases this
  have hHa := w.wx.gh a _ ha
  have s1 : ∀ b o, b ≠ a → b ∉ ow.map (·.1) → H b = some o → H' b = some o := fun b o n m q => s.1 b o m (by rw [upd_ne n]; exact q)
  refine ⟨⟨fun b o m q => ?_, fun b o q => ?_⟩, s.1 a _ na upd_same, s1⟩
  · have h1 := w.hh.1 b o m q
    by_cases e : b = a
    · subst e
      rw [hHa] at h1
      rw [upd_same]
      exact h1
    · rw [upd_ne e]
      refine s1 b o e (fun z => ?_) h1
      obtain ⟨p, hp, e2⟩ := List.mem_map.mp z
      have e2 : p.1 = b := e2
      rcases w.fr p hp with k | k
      · rw [e2, q] at k; cases k
      · rw [e2] at k; exact m k
  · obtain ⟨o1, q1⟩ := w.hh.2 b o q
    by_cases e : b = a
    · exact ⟨_, by rw [e, upd_same]⟩
    · rw [upd_ne e]
      exact s.2 b o1 (by rw [upd_ne e]; exact q1)
theorem Wd.unlock {a : Addr} {vs : List (Key × V)} {od : Obj} {B : Hp} {ow' : Ow} {dn' : Dn} {G' H' : Hp} {σ' : L2.St} (w : Wd K F ow dn G H σ) (ha : G a = some (.dK vs)) (sb : Same (upd G a (.frz od (.dK vs))) B)
    (w' : Wd K (frL ow B (upd G a (.frz od (.dK vs))) (upd H a (.frz od (.dK vs)))) ow' dn' G' H' σ') : H' a = some (.frz od (.dK vs)) ∧ Wd K F ow' dn' (upd G' a (.dK vs)) (upd H' a (.dK vs)) σ' := by
  obtain ⟨h1, h2, h3⟩ := unlock_hh w ha w'.hh
  have hGa : G' a = some (.frz od (.dK vs)) := w'.sb a _ (sb a _ upd_same)
  refine ⟨h2, ⟨⟨fun b o h => ?_, fun i d h => ?_, w'.wx.len, fun p hp => ?_, w'.wx.nd⟩, h1, fun b o h => ?_, fun p hp => ?_, fun b o h => ?_⟩⟩
  · by_cases e : b = a
    · subst e; rw [upd_same] at h ⊢; exact h
    · rw [upd_ne e] at h ⊢; exact w'.wx.gh b o h
  · obtain ⟨v, q, r⟩ := w'.wx.en i d h
    exact ⟨v, q, r.keep (Keep.unlock hGa)⟩
  · have h := w'.wx.own p hp
    have e : p.1 ≠ a := fun z => by have := h.1; rw [z, hGa] at this; cases this
    exact h.keep (Keep.unlock hGa) (by rw [upd_ne e]; exact h.1) (by rw [upd_ne e])
  · by_cases e : b = a
    · subst e
      rw [upd_same] at h
      cases h
      exact w.fp b _ ha
    · rw [upd_ne e] at h
      rcases w'.fp b o h with k | k
      · have k : upd G a (.frz od (.dK vs)) b = some o := k
        rw [upd_ne e] at k
        exact w.fp b o k
      · have k : upd H a (.frz od (.dK vs)) b = none := k
        rw [upd_ne e] at k
        exact .inr (w.hh.free k)
  · rcases w'.fr p hp with k | k
    · have k : upd H a (.frz od (.dK vs)) p.1 = none := k
      by_cases e : p.1 = a
      · rw [e, upd_same] at k; cases k
      · rw [upd_ne e] at k
        exact .inl (w.hh.free k)
    · have k : p.1 ∈ ow.map (·.1) := k
      obtain ⟨p0, hp0, e⟩ := List.mem_map.mp k
      have e : p0.1 = p.1 := e
      rw [← e]
      exact w.fr p0 hp0
  · have k1 := w.sb b o h
    by_cases e : b = a
    · subst e
      rw [ha] at k1
      rw [upd_same]
      exact k1
    · rw [upd_ne e]
      exact w'.sb b o (sb b o (by rw [upd_ne e]; exact k1))
theorem Rt.lock {a : Addr} {vs : List (Key × V)} {od : Obj} {B : Hp} (w : Wd K F ow dn G H σ) (ha : G a = some (.dK vs)) {d : Dt} {nx : L2.St → Hp → Prop} {bk ct : L2.St → Hp → Prop} (r : Rt K F D d) :
    Rt K (frL ow B (upd G a (.frz od (.dK vs))) (upd H a (.frz od (.dK vs)))) ⟨nx, fun v H' => H' a = some (.frz od (.dK vs)) ∧ D.rt v (upd H' a (.dK vs)), bk, ct⟩ d := fun v H' s rp => by
  obtain ⟨h1, h2, h3⟩ := unlock_hh w ha s
  have rp : Rp K (xt (upd G a (.frz od (.dK vs))) (upd H a (.frz od (.dK vs))) H') v d := rp
  refine ⟨h2, r v _ h1 (rp.keep ?_)⟩
  have go : ∀ b z, b ≠ a → xt (upd G a (.frz od (.dK vs))) (upd H a (.frz od (.dK vs))) H' b = some z → xt F.G0 F.H0 (upd H' a (.dK vs)) b = some z := fun b z e h => by
    cases q : H b with
    | none =>
      rw [xt_new (by rw [upd_ne e]; exact q)] at h
      rw [xt_new (w.hh.free q), upd_ne e]
      exact h
    | some y =>
      rw [xt_old (o := y) (by rw [upd_ne e]; exact q), upd_ne e] at h
      have nm : b ∉ ow.map (·.1) := fun z => by
        obtain ⟨p, hp, e2⟩ := List.mem_map.mp z
        have e2 : p.1 = b := e2
        have := (w.wx.own p hp).1
        rw [e2, h] at this
        cases this
      cases q0 : F.H0 b with
      | none =>
        rw [xt_new q0, upd_ne e]
        exact h3 b z e nm (w.wx.gh b z h)
      | some y0 =>
        rw [xt_old q0]
        rcases w.fp b z h with k | k
        · exact k
        · rw [q0] at k; cases k
  have at' : xt (upd G a (.frz od (.dK vs))) (upd H a (.frz od (.dK vs))) H' a = some (.frz od (.dK vs)) := by
    rw [xt_old (o := .frz od (.dK vs)) upd_same, upd_same]
  have to' : xt F.G0 F.H0 (upd H' a (.dK vs)) a = some (.dK vs) := by
    cases q0 : F.H0 a with
    | none => rw [xt_new q0, upd_same]
    | some y0 =>
      rw [xt_old q0]
      rcases w.fp a _ ha with k | k
      · exact k
      · rw [q0] at k; cases k
  refine ⟨fun b u p rd => ?_, fun b C dx fs h => ?_⟩
  · by_cases e : b = a
    · subst e
      rcases rd with rd | ⟨o, rd⟩
      · rw [at'] at rd; cases rd; cases p
      · rw [at'] at rd; cases rd; exact .inl to'
    · rcases rd with rd | ⟨o, rd⟩
      · exact .inl (go b _ e rd)
      · exact .inr ⟨o, go b _ e rd⟩
  · by_cases e : b = a
    · subst e; rw [at'] at h; cases h
    · exact go b _ e h
theorem x_forDz {i j : Nat} {a : Addr} {o : Obj} {vs : List (Key × V)} {ds : List (Key × Dt)} (w : Wd K F ow dn G H σ) (hv : σ[j]? = some (some (.ref a))) (hz : G a = some (.frz o (.dK vs))) (hk : vs.map (·.1) = ds.map (·.1)) (P : Nat → Ow → Dn → Prop) (h0 : ∃ dn', P 0 ow dn' ∧ Le dn' dn)
    (hs : ∀ (m : Nat) k d ow' dn' (σ' : L2.St) G' H' v, ds[m]? = some (k, d) → P m ow' dn' → Wd K (F.to G) ow' (dn'.set i (some (kD k))) G' H' (σ'.set i (some v)) → t { D with nx := At K (F.to G) (P (m + 1)), ct := At K (F.to G) (P (m + 1)), bk := D.nx } (σ'.set i (some v)) H')
    (hd : ∀ ow' dn' σ' G' H', P ds.length ow' dn' → Wd K (F.to G) ow' dn' G' H' σ' → D.nx σ' H') : tFor (iKeys (tVar j)) (gName i) t D σ H := by
  have hl : vs.length = ds.length := by have := congrArg List.length hk; rwa [List.length_map, List.length_map] at this
  refine ⟨_, hv, a, o, rfl, .inl ⟨vs, w.wx.gh a _ hz, ?_⟩⟩
  refine for_it (walk_keys (d := a) (o := o) (kvs := vs)) (fun m σ' H' => At K (F.to G) (P m) σ' H') ?_ (fun m σ' H' hm hp => ?_) (fun m x σ' H' H'' hm hp hy => ?_) (fun σ' H' hp => ?_)
  · obtain ⟨dn', p, l⟩ := h0
    exact At.mk (w.base (Same.refl _)) p l
  · obtain ⟨ow', dn', G', p, w'⟩ := hp.get
    exact w'.wx.gh _ _ (w'.sb _ _ hz)
  · obtain ⟨rfl, k, v, e, rfl⟩ := hy
    obtain ⟨ow', dn', G', p, w'⟩ := hp.get
    have e2 : (ds.map (·.1))[m]? = some k := by rw [← hk, List.getElem?_map, e]; rfl
    rw [List.getElem?_map] at e2
    obtain ⟨⟨k', d⟩, e3, e4⟩ := Option.map_eq_some_iff.mp e2
    have e4 : k' = k := e4
    subst e4
    exact hs m k' d ow' dn' σ' G' _ _ e3 p (w'.set (rp_key _))
  · obtain ⟨ow', dn', G', p, w'⟩ := hp.get
    rw [hl] at p
    exact hd ow' dn' σ' G' H' p w'
/-- for k in d, d read; the walk locks d, or it stands locked -/
def tForD (wi : TI) (g : TG) (t : TS) : TS := fun D σ H => tFor wi g t D σ H ∨ tLock (tFor wi g t) D σ H
theorem ps_forD {X : Cx} {st : Stmt} {wi : TI} {g : TG} (h : PS X st (tFor wi g t)) : PS X st (tForD wi g t) :=
  ⟨fun pins s σ H D I q => q.elim (h.run pins s σ H D I) ((ps_lock h).run pins s σ H D I)⟩
theorem x_forD {i j : Nat} {ds : List (Key × Dt)} (w : Wd K F ow dn G H σ) (hj : dn[j]? = some (some (.dct ds))) (P : Nat → Ow → Dn → Prop) (h0 : ∃ dn', P 0 ow dn' ∧ Le dn' dn)
    (hs : ∀ F1 (D1 : Ends) (m : Nat) k d ow' dn' (σ' : L2.St) G' H' v, (∀ d, Rt K F D d → Rt K F1 D1 d) → ds[m]? = some (k, d) → P m ow' dn' → Wd K F1 ow' (dn'.set i (some (kD k))) G' H' (σ'.set i (some v)) → t { D1 with nx := At K F1 (P (m + 1)), ct := At K F1 (P (m + 1)), bk := D1.nx } (σ'.set i (some v)) H')
    (hd : ∀ ow' dn' σ' G' H', P ds.length ow' dn' → Wd K F ow' dn' G' H' σ' → D.nx σ' H') : tForD (iKeys (tVar j)) (gName i) t D σ H := by
  obtain ⟨v, hv, rv⟩ := w.wx.en j _ hj
  obtain ⟨a, vs, rfl, hr, rk⟩ := rv.D
  rcases hr with hr | ⟨o, hr⟩
  · refine .inr ⟨a, .dK vs, w.wx.gh a _ hr, trivial, fun od => ?_⟩
    refine x_forDz (Wd.lock w hr od) hv upd_same rk.keys P h0 (fun m k d ow' dn' σ' G' H' v e p w' => ?_) (fun ow' dn' σ' G' H' p w' => ?_)
    · exact hs _ _ m k d ow' dn' σ' G' H' v (fun d r => Rt.lock w hr r) e p w'
    · obtain ⟨h1, w2⟩ := Wd.unlock w hr (Same.refl _) w'
      exact ⟨h1, hd ow' dn' σ' _ _ p w2⟩
  · exact .inl (x_forDz w hv hr rk.keys P h0 (fun m k d ow' dn' σ' G' H' v e p w' => hs (F.to G) D m k d ow' dn' σ' G' H' v (fun d r => r) e p w') (fun ow' dn' σ' G' H' p w' => hd ow' dn' σ' G' H' p (w'.back w.sb)))
theorem s_forD {i j : Nat} {ds : List (Key × Dt)} (w : Wd K F ow dn G H σ) (hj : dn[j]? = some (some (.dct ds))) (P : Nat → Ow → Dn → Prop) (h0 : ∃ dn', P 0 ow dn' ∧ Le dn' dn)
    (hs : ∀ F1 (D1 : Ends) (m : Nat) k d ow' dn' (σ' : L2.St) G' H' v, (∀ d, Rt K F ⟨u D, D.rt, D.bk, D.ct⟩ d → Rt K F1 D1 d) → ds[m]? = some (k, d) → P m ow' dn' → Wd K F1 ow' (dn'.set i (some (kD k))) G' H' (σ'.set i (some v)) → t { D1 with nx := At K F1 (P (m + 1)), ct := At K F1 (P (m + 1)), bk := D1.nx } (σ'.set i (some v)) H')
    (hd : ∀ ow' dn' σ' G' H', P ds.length ow' dn' → Wd K F ow' dn' G' H' σ' → u D σ' H') : tSeq (tForD (iKeys (tVar j)) (gName i) t) u D σ H := x_forD (D := ⟨u D, D.rt, D.bk, D.ct⟩) w hj P h0 hs hd
end

/-! ### one's own things read -/
section
variable {K : PySem.W.Frag} {ow : Ow} {dn : Dn} {ta tb td ty te : TE} {tr : TA} {d x y : Dt} {F : Fr} {G H H2 : Hp} {σ : L2.St}
theorem ed_oget {j : Nat} {a : Addr} {ds : List (Key × Dt)} {k : Key} (hj : ow[j]? = some (a, .dct ds)) (ha : Ed K ow dn td (.adr a)) (hb : Ed K ow dn ty (kD k)) (h : valD ds k = some d) : Ed K ow dn (tDGet td ty) d := fun σ G H w Q q =>
  two_step w ha hb fun v u H2 e w2 r1 r2 => by
    have z := r1.a
    subst z
    obtain ⟨vs, hH, rk⟩ := (w2.own _ (List.mem_of_getElem? hj)).2
    have hH : H2 a = some (.dK vs) := hH
    rcases rk.val k with ⟨z, _⟩ | ⟨d', v', h1, h2, h3⟩
    · rw [h] at z; cases z
    · rw [h] at h1
      cases h1
      exact ⟨a, v', rfl, .inl ⟨vs, k, .inl hH, r2.k, h2.symm⟩, q v' H2 e h3⟩
theorem ed_oixL {j : Nat} {a : Addr} {ds : List Dt} {i : Int} (hj : ow[j]? = some (a, .lst ds)) (ha : Ed K ow dn ta (.adr a)) (hb : Ed K ow dn tb (.int i)) (h : atI ds i = some d) : Ed K ow dn (tOp (rIxL K) ta tb) d := fun σ G H w Q q =>
  two_step w ha hb fun v u H2 e w2 r1 r2 => by
    have z := r1.a
    subst z
    obtain ⟨vs, hH, rk⟩ := (w2.own _ (List.mem_of_getElem? hj)).2
    have hH : H2 a = some (.lst vs) := hH
    have q2 : ∃ v', atI vs i = some v' ∧ Rp K (xt G H H2) v' d := by
      unfold atI at h ⊢
      rw [rk.length]
      cases hn : ixN ds.length i with
      | none => rw [hn] at h; cases h
      | some n =>
        rw [hn] at h
        exact rk.get h
    obtain ⟨v', hv', rv'⟩ := q2
    exact ⟨a, vs, i, v', rfl, r2.i, SqL.of hH, hv', q v' H2 e rv'⟩
/-! ### sums of tuples -/
theorem ed_catT {xs ys : List Dt} (ha : Ed K ow dn ta (.tup xs)) (hb : Ed K ow dn tb (.tup ys)) (hx : xs ≠ [] := by simp) (hy : ys ≠ [] := by simp) (hl : xs.length + ys.length ≤ 1000000 := by exact Nat.le_of_ble_eq_true rfl) : Ed K ow dn (tOp (rCatT K) ta tb) (.tup (xs ++ ys)) :=
  ed_op ha hb fun G H e v u r1 r2 Q q => by
    obtain ⟨a, vs, rfl, h1, ra⟩ := r1.T
    obtain ⟨b, us, rfl, h2, rb⟩ := r2.T
    have n1 : vs ≠ [] := fun z => hx (List.eq_nil_of_length_eq_zero (by rw [← ra.length, z]; rfl))
    have n2 : us ≠ [] := fun z => hy (List.eq_nil_of_length_eq_zero (by rw [← rb.length, z]; rfl))
    refine ⟨a, b, vs, us, rfl, rfl, same_t e h1, same_t e h2, n1, sz_of (by rw [ra.length, rb.length]; exact hl), fun z => absurd z n2, fun _ p np => q _ _ (same_new np) ?_⟩
    refine .tup (.inl (.inl ?_)) ((ra.append rb).mono (xt_ge e))
    rw [xt_new np]; exact upd_same
/-! ### sorted ints -/
def insI (x : Int) : List Int → List Int
  | [] => [x]
  | y :: r => if x ≤ y then x :: y :: r else y :: insI x r
def srtI : List Int → List Int
  | [] => []
  | x :: r => insI x (srtI r)
theorem insI_perm (x : Int) : ∀ l : List Int, (insI x l).Perm (x :: l)
  | [] => .refl _
  | y :: r => by
    unfold insI
    split
    · exact .refl _
    · exact ((insI_perm x r).cons y).trans (.swap x y r)
theorem srtI_perm : ∀ l : List Int, (srtI l).Perm l
  | [] => .refl _
  | x :: r => (insI_perm x _).trans ((srtI_perm r).cons x)
theorem insI_up (x : Int) : ∀ l : List Int, l.Pairwise (· ≤ ·) → (insI x l).Pairwise (· ≤ ·)
  | [], _ => by unfold insI; simp
  | y :: r, h => by
    unfold insI
    have h2 := List.pairwise_cons.mp h
    split
    · rename_i hxy
      exact List.pairwise_cons.mpr ⟨fun z hz => by
        rcases List.mem_cons.mp hz with e | e
        · rw [e]; exact hxy
        · exact Int.le_trans hxy (h2.1 z e), h⟩
    · rename_i hxy
      refine List.pairwise_cons.mpr ⟨fun z hz => ?_, insI_up x r h2.2⟩
      rcases List.mem_cons.mp ((insI_perm x r).mem_iff.mp hz) with e | e
      · omega
      · exact h2.1 z e
theorem srtI_up : ∀ l : List Int, (srtI l).Pairwise (· ≤ ·)
  | [] => .nil
  | x :: r => insI_up x _ (srtI_up r)
theorem up_same {a b : List Int} (ha : a.Pairwise (· ≤ ·)) (hb : b.Pairwise (· ≤ ·)) (h : a.Perm b) : a = b :=
  List.Perm.eq_of_pairwise (le := fun x y : Int => x ≤ y) (fun x y _ _ h1 h2 => Int.le_antisymm h1 h2) ha hb h
theorem en_sortI {ns : List Int} (h : Ea K ow dn tr [.lst (ns.map .int)]) : BW.En K ow dn (tCB (rSortedI K) tr) (.lst ((srtI ns).map .int)) := en_cb h fun G H e vs r Q q => by
  obtain ⟨v, rfl, r1⟩ := r.one
  obtain ⟨a, us, rfl, hs, ra⟩ := r1.L
  rw [ra.ints] at hs
  refine ⟨a, ns, rfl, e.seq hs, fun ns' p hp hu np => ?_⟩
  have z : ns' = srtI ns := up_same hu (srtI_up ns) (hp.trans (srtI_perm ns).symm)
  subst z
  exact q p _ (same_new np) np G (Same.refl G) (e.trans (same_new np)) (fun b o k => .inl k) ⟨e.free np, _, upd_same, RpA.of_ints _⟩
/-! ### a comprehension over a zip of two tuples -/
theorem Lc.ext {L : Addr} {items : List Dt} {H' H2 : Hp} (p : Lc K G H L items H') (e : Same H' H2) : Lc K G H L items H2 := by
  obtain ⟨⟨G', g1, g2, ff, oo⟩, hh⟩ := p
  refine ⟨⟨G', g1, g2.trans e, ff, oo.1, ?_⟩, hh.trans e⟩
  obtain ⟨vs, q, r⟩ := oo.2
  have q : H' L = some (.lst vs) := q
  exact ⟨vs, e _ _ q, r⟩
theorem lc_turn2 {dn2 : Dn} {σ2 : L2.St} {L : Addr} {items : List Dt} {H' : Hp} {b : Bool} {f : Dt} {tt : TT} (nl : H L = none) (p : Lc K G H L items H')
    (hw : ∀ G', Same G G' → Same G' H' → (∀ b o, G' b = some o → G b = some o ∨ H b = none) → Wx K ow dn2 G' H' σ2)
    (ht : Et K ow dn2 tt b) (he : b = true → Ed K ow dn2 te f) (hz : items.length < 1000000) {Nx : Hp → Prop} (hn : ∀ H2, Lc K G H L (if b = true then items ++ [f] else items) H2 → Nx H2) :
    tt σ2 H' fun b' H3 => if b' = true then te σ2 H3 fun y H4 => ∃ acc, H4 L = some (.lst acc) ∧ acc.length < sizeLine ∧ Nx (upd H4 L (.lst (acc ++ [y]))) else Nx H3 := by
  obtain ⟨⟨G', g1, g2, ff, oo⟩, hh⟩ := p
  have w1 := hw G' g1 g2 ff
  refine ht _ G' H' w1 _ fun H3 e3 => ?_
  obtain ⟨vs, q, r⟩ := oo.2
  have q : H' L = some (.lst vs) := q
  cases b with
  | false =>
    refine iteF (hn H3 ⟨⟨G', g1, g2.trans e3, ff, oo.1, vs, e3 _ _ q, r⟩, hh.trans e3⟩)
  | true =>
    refine iteT (he rfl _ _ H3 (w1.ext e3) _ fun y H4 e4 r4 => ?_)
    rw [xt_xt e3 e4] at r4
    have e34 := e3.trans e4
    refine ⟨vs, e34 _ _ q, by rw [r.length]; exact sz_lt hz, hn _ ⟨⟨xt G' H' H4, g1.trans (xt_ge g2), fun b o h => ?_, fun b o h => ?_, ?_, _, upd_same, (r.mono (xt_ge g2)).append (.cons r4 .nil)⟩, fun b o h => ?_⟩⟩
    · have k := xt_le g2 e34 b o h
      have hb : b ≠ L := fun z => by
        rw [z, xt_old q] at h
        have := oo.1
        rw [this] at h
        cases h
      rw [upd_ne hb]; exact k
    · cases z : H' b with
      | none => exact .inr (hh.free z)
      | some u =>
        rw [xt_old z] at h
        exact ff b o h
    · show xt G' H' H4 L = none
      rw [xt_old q]; exact oo.1
    · have hb : b ≠ L := fun z => by rw [z, nl] at h; cases h
      rw [upd_ne hb]
      exact e34 b o (hh b o h)
theorem walk_zipT {a b : Addr} {xs ys : List V} {n : Nat} (hn : n = min xs.length ys.length) : Walk (RZ.ItzT K a b) n (fun H => SqT K H a xs ∧ SqT K H b ys) (YPair (fun i => xs[i]?) (fun i => ys[i]?)) := by
  subst hn
  refine ⟨fun i _ hi q => ?_, fun _ q => ⟨xs, ys, q.1, q.2, by omega⟩, fun i H v H' _ q y => ?_⟩
  · have h1 : i < xs.length := by omega
    have h2 : i < ys.length := by omega
    exact ⟨xs, ys, xs[i], ys[i], q.1, q.2, by simp [h1], by simp [h2]⟩
  · obtain ⟨T, x, z, h1, h2, h3, h4, h5⟩ := y
    exact ⟨T, x, z, h1, h2, h3, h4 xs q.1, h5 ys q.2⟩
theorem wipe2_again (σ : L2.St) (i j : Nat) (hij : i ≠ j) (x y : Option V) : wipe (((wipe σ [i, j]).set i x).set j y) [i, j] = wipe σ [i, j] := by
  show (((((σ.set j none).set i none).set i x).set j y).set j none).set i none = (σ.set j none).set i none
  apply List.ext_getElem?
  intro k
  simp only [List.getElem?_set, List.length_set]
  split <;> split <;> simp_all
theorem en_lcZ {i j : Nat} {xs ys : List Dt} {f : Nat → Dt} (h : Ea K ow dn tr [.tup xs, .tup ys]) (hij : i ≠ j) (hl : xs.length = ys.length) (hz : xs.length ≤ 900000)
    (he : ∀ m dx dy, xs[m]? = some dx → ys[m]? = some dy → Ed K ow ((((dn.set j none).set i none).set i (some dx)).set j (some dy)) te (f m)) :
    BW.En K ow dn (tLc (RZ.iZipA K tr) (gTup K 2 (gCons (gName i) (gCons (gName j) gNil))) tYes te [i, j]) (.lst ((List.range xs.length).map f)) := fun σ G H w Q q => by
  refine h σ G H w _ fun vs H1 e1 r1 => ?_
  obtain ⟨v, u, rfl, rx, ry⟩ := r1.two
  obtain ⟨a, vx, rfl, hsx, rax⟩ := rx.T
  obtain ⟨b, vy, rfl, hsy, ray⟩ := ry.T
  have w1 := w.ext e1
  refine ⟨a, b, vx, vy, rfl, .inr ⟨same_t w1.gh hsx, same_t w1.gh hsy, fun L nl => ?_⟩⟩
  refine lc_it (walk_zipT (xs := vx) (ys := vy) (n := xs.length) (by rw [rax.length, ray.length, hl, Nat.min_self])) (fun m H' => Lc K (xt G H H1) H1 L ((List.range m).map f) H') (lc_first w1.gh nl) (fun m H' hm p => ⟨same_t p.hh (same_t w1.gh hsx), same_t p.hh (same_t w1.gh hsy)⟩) (fun m x H' H'' hm p hy => ?_) (fun H' p => lc_last e1 nl p w.gh q)
  obtain ⟨T, x, y, rfl, nT, rfl, hx, hy⟩ := hy
  obtain ⟨dx, hdx, rdx⟩ := rax.get' hx
  obtain ⟨dy, hdy, rdy⟩ := ray.get' hy
  refine ⟨T, [x, y], rfl, .inl (.inl upd_same), rfl, x, [y], rfl, y, [], rfl, rfl, ?_⟩
  have p2 := p.ext (same_new (o := .tup [x, y]) nT)
  refine ⟨wipe2_again σ i j hij _ _, lc_turn2 (b := true) nl p2 (fun G' g1 g2 ff => ?_) et_yes (fun _ => he m dx dy hdx hdy) ?_ fun H2 p3 => ?_⟩
  · have w2 := (((w1.grow g1 g2 p2.hh ff).wiped j).wiped i)
    exact (w2.set (rdx.mono g1)).set (rdy.mono g1)
  · rw [List.length_map, List.length_range]; omega
  · rw [List.range_succ, List.map_append]
    exact p3
end

/-! ### != of dicts -/
section
variable {P : Program} {w : World} {A : Around} {s : Shared} {E : Value → Shared → Prop} {KT : Type} [DecidableEq KT] {knd : KeyKind P w KT}
theorem ne_dictsT {n : Nat} {a b : Addr} {ka kb : List (KT × Value)} {e : KT → Bool} {Q : Value → Shared → Prop} (ha : (a == sysModules) = false) (hb : (b == sysModules) = false)
    (da : s.heap.DictOf knd a ka) (db : s.heap.DictOf knd b kb) (t : ∀ k v y, (k, v) ∈ ka → valueAt kb k = some y → PySem.W.EqTree P w s n v y (e k)) (hu : A.units + (n + 1) < cLine)
    (h : Q (.bool (!(ka.length == kb.length && ka.all fun p => (valueAt kb p.1).isSome && e p.1))) s) : wpAny (model P w) A (compareOp .NotEq (.ref a) (.ref b)) Q E s := by
  refine wpAny_richCompare_same_room (op := .NotEq) da.typeIs db.typeIs PySem.F.slot_dict_ne (wpAny_call_entry PySem.F.slot_dict_ne da.typeIs PySem.F.entry_dict_ne ?_ (PySem.F.args_dict_ne_2 _ _)) (by omega)
  show wpAny _ _ (Builtin.Dict.dictSlotArgs "__ne__" ⟨[.ref a, .ref b], []⟩ >>= _) _ _ s
  refine wpAny_bind ?_
  unfold Builtin.Dict.dictSlotArgs
  refine wpAny_bind (wpAny_notOrdered_dict da.typeIs ?_)
  show wpAny _ _ (pure (Value.ref a, Value.ref b)) _ _ s
  refine wpAny_pure ?_
  refine wpAny_bind (wpAny_isInstance (T := "dict") db.typeIs PySem.F.sub_dict_dict ?_)
  simp only [Bool.not_true, Bool.false_eq_true, if_false]
  refine wpAny_bind (wpAny_pure (wpAny_bind (wpAny_pure ?_)))
  refine wpAny_bind (PySem.W.keq_samePairsIn ha hb da db (fun _ => PySem.W.KeqHitsIn.of _ fun k v y hm hv => (t k v y hm hv).at A.in1 (by show A.units + 1 + _ < cLine; omega)) ?_)
  refine wpAny_pure ⟨_, rfl, ?_, ?_⟩
  · exact fun x => nomatch x
  · simpa using h
end
section
variable {X : Cx}
def rNeX (K : PySem.W.Frag) : R2 := fun x y H Q => ∃ d e n b, Rp K H x d ∧ Rp K H y e ∧ Eqv (n + 1) d e b ∧ n ≤ 50 ∧ (∃ ks, d = .dct ks) ∧ (∃ ks, e = .dct ks) ∧ Q (.bl (!b)) H
theorem op_neX (hu : X.A.units + 64 < cLine) : OpR X (compareOp .NotEq) (rNeX X.K) := by
  intro pins s σ H x y v u Q I rx ry h
  obtain ⟨d, e, n, b, r1, r2, h, hn, ⟨k1, rfl⟩, ⟨k2, rfl⟩, q⟩ := h
  have fin : EP X pins σ Q (.bool (!b)) s := ⟨.bl (!b), H, I, rfl, q⟩
  cases h with
  | @dct _ xs ys e hh =>
    obtain ⟨a, vs, rfl, h1, ra⟩ := r1.D
    obtain ⟨a', us, rfl, h2, rb⟩ := r2.D
    cases rx
    cases ry
    obtain ⟨ka, kb, y1, y2, da, db, ee, t⟩ := dct_key I h1 h2 ra rb fun k x y m1 m2 => Eqv.tree I (hh k x y m1 m2)
    exact ne_dictsT y1 y2 da db t (by omega) (by rw [ee]; exact fin)
end
section
variable {K : PySem.W.Frag} {ow : Ow} {dn : Dn} {ta tb te : TE} {x y : Dt}
theorem ed_neX {xs ys : List (Key × Dt)} {n : Nat} {b : Bool} (ha : Ed K ow dn ta (.dct xs)) (hb : Ed K ow dn tb (.dct ys)) (h : Eqv (n + 1) (.dct xs) (.dct ys) b) (hn : n ≤ 50 := by decide) : Ed K ow dn (tOp (rNeX K) ta tb) (.bl (!b)) :=
  ed_op ha hb fun G H e v u r1 r2 Q q => ⟨_, _, n, b, r1.mono e, r2.mono e, h, hn, ⟨_, rfl⟩, ⟨_, rfl⟩, q _ H (Same.refl H) (.bl _)⟩
end
end BW

set_option Elab.async false
set_option linter.all false
set_option maxRecDepth 100000
set_option maxHeartbeats 4000000
/-! BW8: written dicts of any data, defs that hand out a new thing, pairs as targets, in of tuples. -/
namespace BW
open PySem L2 PySem.Spec PyProof.Rows

/-! ### a written dict -/
inductive Epp (K : PySem.W.Frag) (ow : Ow) (dn : Dn) : List (TE × TE) → List (Key × Dt) → Prop
  | nil : Epp K ow dn [] []
  | cons {tk tv : TE} {trs : List (TE × TE)} {k : Key} {d : Dt} {ds : List (Key × Dt)} : Ed K ow dn tk (kD k) → Ed K ow dn tv d → Epp K ow dn trs ds → Epp K ow dn ((tk, tv) :: trs) ((k, d) :: ds)
section
variable {K : PySem.W.Frag} {ow : Ow} {dn : Dn} {ta tb td ty te : TE} {tr : TA} {d x y : Dt} {F : Fr} {G H H2 : Hp} {σ : L2.St} {D : Ends} {t u : TS}
theorem Epp.run {trs : List (TE × TE)} {ds : List (Key × Dt)} (h : Epp K ow dn trs ds) : ∀ {G H : Hp}, Wx K ow dn G H σ → ∀ Q : List (V × V) → Hp → Prop, (∀ (ks : List (Key × V)) H2, Same H H2 → RpK K (xt G H H2) ks ds → Q (ks.map fun kv => (kV kv.1, kv.2)) H2) → tPairs trs σ H Q := by
  induction h with
  | nil => exact fun w Q q => q [] _ (Same.refl _) .nil
  | @cons tk tv trs k d ds hk hv _ ih =>
    intro G H w Q q
    refine hk σ G H w _ fun x H1 e1 r1 => hv σ _ H1 (w.ext e1) _ fun y H2 e2 r2 => ?_
    have w2 := (w.ext e1).ext e2
    refine ih w2 _ fun ks H3 e3 rk => ?_
    have e := r1.k
    subst e
    have r2' := r2.mono (xt_ge (G := xt (xt G H H1) H1 H2) (H := H2) (H2 := H3) w2.gh)
    rw [xt_xt e1 e2, xt_xt (e1.trans e2) e3] at r2' rk
    exact q ((k, y) :: ks) H3 ((e1.trans e2).trans e3) (.cons r2' rk)
theorem ed_dispT {trs : List (TE × TE)} {ds : List (Key × Dt)} (h : Epp K ow dn trs ds) (hl : ds.length ≤ 15 := by exact Nat.le_of_ble_eq_true rfl) : Ed K ow dn (tDisp trs) (.dct (mergeD [] ds)) := fun σ G H w Q q p np => by
  have e0 := same_new (o := .dK []) np
  have w1 : Wx K ow dn G (upd H p (.dK [])) σ := by
    refine ⟨w.gh.trans e0, w.en, w.len, fun x hx => ?_, w.nd⟩
    have o := w.own x hx
    obtain ⟨z, hz⟩ := o.there
    exact o.mono (Same.refl G) o.1 (by rw [upd_ne (ne_of_none hz np)])
  refine h.run w1 _ fun ks H2 e rk => ⟨e p _ upd_same, ks, rfl, by rw [rk.length]; exact hl, ?_⟩
  have gp : G p = none := w.gh.free np
  have key : Same (xt G (upd H p (.dK [])) H2) (xt G H (upd H2 p (.dK (mergeK [] ks)))) := fun b o hb => by
    by_cases eb : b = p
    · subst eb
      rw [xt_old upd_same, gp] at hb
      cases hb
    · cases z : H b with
      | none =>
        rw [xt_new (by rw [upd_ne eb]; exact z)] at hb
        rw [xt_new z, upd_ne eb]
        exact hb
      | some y =>
        rw [xt_old (o := y) (by rw [upd_ne eb]; exact z)] at hb
        rw [xt_old z]
        exact hb
  refine q _ _ (fun b o hb => ?_) (.dct (ks := mergeK [] ks) (.inl ?_) ((rk.merge .nil).mono key))
  · have eb : b ≠ p := ne_of_none hb np
    rw [upd_ne eb]
    exact e b o (e0 b o hb)
  · rw [xt_new np]
    exact upd_same

/-! ### a def that hands out a new thing -/
def SpO (K : PySem.W.Frag) (R : List Dt → Option Ob → Prop) : Sp := fun vs H Q _ => ∃ G ds r, Same G H ∧ RpA K G vs ds ∧ R ds r ∧ (r = none → ∀ H', SamX [] H H' → Q .non H') ∧
  ∀ ob, r = some ob → ∀ p G2 H', SamX [] H H' → H p = none → Same G G2 → Same G2 H' → (∀ b o, G2 b = some o → G b = some o ∨ H b = none) → OwnOk K G2 H' (p, ob) → Q (.ref p) H'
theorem en_callO {R : List Dt → Option Ob → Prop} {E : XK} {ds : List Dt} {ob : Ob} (h : Ea K ow dn tr ds) (hr : R ds (some ob)) : BW.En K ow dn (tCall (SpO K R) [] E tr) ob := fun σ G H w Q q =>
  h σ G H w _ fun vs H1 e1 r1 => by
    rw [List.append_nil]
    refine ⟨_, ds, some ob, (w.ext e1).gh, r1, hr, (fun z => by cases z), fun ob' z p G2 H' s np g1 g2 ff oo => ?_⟩
    cases z
    refine q p H' (e1.trans s.same) (e1.free np) G2 ((xt_ge w.gh).trans g1) g2 (fun b o k => ?_) oo
    rcases ff b o k with k | k
    · cases z : H b with
      | none => exact .inr rfl
      | some u => rw [xt_old z] at k; exact .inl k
    · exact .inr (e1.free k)
theorem ed_callN {R : List Dt → Option Ob → Prop} {E : XK} {ds : List Dt} (h : Ea K ow dn tr ds) (hr : R ds none) : Ed K ow dn (tCall (SpO K R) [] E tr) .non := fun σ G H w Q q =>
  h σ G H w _ fun vs H1 e1 r1 => by
    rw [List.append_nil]
    exact ⟨_, ds, none, (w.ext e1).gh, r1, hr, fun _ H' s => q _ H' (e1.trans s.same) .non, (fun ob' z => by cases z)⟩
theorem ok_O {P : Program} {w : World} {mg : Str → Option Value} {base : Heap} {x qual : Str} {st : Stmt} {f : Addr} {fd : FuncData} {N ps : List Str} {k : Nat} {R : List Dt → Option Ob → Prop} (F : Fun K x qual st f fd) (S : FnScope N ps (defScope st))
    (hlen : ∀ ds d, R ds d → ds.length = ps.length)
    (hbody : ∀ (cdv : Value) (A : Around) (outer : List Env) (s : Shared) (H : Hp) (E : XK), Room k (A.deeper (envOfC qual (defScope st) s.heap.objs.size f cdv)) →
      ∃ t, PSs (cxOf CX0 P w K mg base N qual (defScope st) f cdv A outer s H E).nox (defBody st) t ∧ ∀ G vs ds r (Q : VK), R ds r → Same G H → RpA K G vs ds → ((r = none → ∀ H', SamX [] H H' → Q .non H') ∧
        ∀ ob, r = some ob → ∀ p G2 H', SamX [] H H' → H p = none → Same G G2 → Same G2 H' → (∀ b o, G2 b = some o → G b = some o ∨ H b = none) → OwnOk K G2 H' (p, ob) → Q (.ref p) H') → t { nx := fun _ H' => Q .non H', rt := Q } (L2.start N vs) H) :
    FnOk P w K mg base CX0 (k + 1) f fd ps (SpO K R) := by
  refine F.ok S (fun vs H Q E h => ?_) (fun cdv A outer s H vs Q E hr h => ?_)
  · obtain ⟨G, ds, d, _, r, hR, _⟩ := h
    rw [r.length]
    exact hlen ds d hR
  · obtain ⟨G, ds, d, gh, r, hR, q⟩ := h
    obtain ⟨t, ht, hq⟩ := hbody cdv A outer s H E hr
    exact ⟨t, ht, hq G vs ds d Q hR gh r q⟩
/-- return x, x one's own -/
theorem x_retO {i j : Nat} {a : Addr} {ob : Ob} (w : Wd K F ow dn G H σ) (hM : F.M = []) (hj : ow[j]? = some (a, ob)) (hi : dn[i]? = some (some (.adr a)))
    (q : ∀ p G2 H', SamX [] F.H0 H' → F.H0 p = none → Same F.B G2 → Same G2 H' → (∀ b o, G2 b = some o → F.G0 b = some o ∨ F.H0 b = none) → OwnOk K G2 H' (p, ob) → D.rt (.ref p) H') : tRet (tVar i) D σ H := by
  obtain ⟨v, hv, rv⟩ := w.wx.en i _ hi
  have hv' := rv.a
  subst hv'
  have hm := List.mem_of_getElem? hj
  have hfr : F.H0 a = none := by
    rcases w.fr _ hm with k | k
    · exact k
    · rw [hM] at k; cases k
  refine ⟨_, hv, q a G H ?_ hfr w.sb w.wx.gh w.fp (w.wx.own _ hm)⟩
  have := w.hh
  rw [hM] at this
  exact this

/-! ### pairs as targets -/
theorem x_set2 {i j : Nat} {d1 d2 : Dt} (w : Wd K F ow dn G H σ) (h : Ed K ow dn te (.tup [d1, d2])) (k : ∀ v u H', Wd K F ow ((dn.set i (some d1)).set j (some d2)) (xt G H H') H' ((σ.set i (some v)).set j (some u)) → D.nx ((σ.set i (some v)).set j (some u)) H') :
    tAsg te (gTup K 2 (gCons (gName i) (gCons (gName j) gNil))) D σ H :=
  h σ G H w.wx _ fun v H' e r => by
    obtain ⟨a, vs, rfl, hs, ra⟩ := r.T
    obtain ⟨v1, v2, rfl, r1, r2⟩ := ra.two
    have w1 := w.ext e
    exact ⟨a, [v1, v2], rfl, same_t w1.wx.gh hs, rfl, v1, [v2], rfl, v2, [], rfl, rfl, k v1 v2 H' ((w1.set r1).set r2)⟩
theorem s_set2 {i j : Nat} {d1 d2 : Dt} (w : Wd K F ow dn G H σ) (h : Ed K ow dn te (.tup [d1, d2])) (k : ∀ v w2 H', Wd K F ow ((dn.set i (some d1)).set j (some d2)) (xt G H H') H' ((σ.set i (some v)).set j (some w2)) → u D ((σ.set i (some v)).set j (some w2)) H') :
    tSeq (tAsg te (gTup K 2 (gCons (gName i) (gCons (gName j) gNil)))) u D σ H := x_set2 w h k
theorem x_forL2 {tl : TE} {i j : Nat} {ds : List (Dt × Dt)} (w : Wd K F ow dn G H σ) (h : Ed K ow dn tl (.lst (ds.map fun p => .tup [p.1, p.2]))) (P : Nat → Ow → Dn → Prop) (h0 : ∃ dn', P 0 ow dn' ∧ Le dn' dn)
    (hs : ∀ (m : Nat) d1 d2 ow' dn' (σ' : L2.St) B G' H' v1 v2, ds[m]? = some (d1, d2) → P m ow' dn' → Wd K (F.to B) ow' ((dn'.set i (some d1)).set j (some d2)) G' H' ((σ'.set i (some v1)).set j (some v2)) → t { D with nx := At K (F.to B) (P (m + 1)), ct := At K (F.to B) (P (m + 1)), bk := D.nx } ((σ'.set i (some v1)).set j (some v2)) H')
    (hd : ∀ ow' dn' σ' G' H', P ds.length ow' dn' → Wd K F ow' dn' G' H' σ' → D.nx σ' H') : tFor (iList K tl) (gTup K 2 (gCons (gName i) (gCons (gName j) gNil))) t D σ H :=
  x_forLg w h P h0 (fun m d ow' dn' σ' B G' H' v e p w' r => by
    rw [List.getElem?_map] at e
    obtain ⟨⟨d1, d2⟩, e1, rfl⟩ := Option.map_eq_some_iff.mp e
    obtain ⟨a, vs, rfl, hs1, ra⟩ := r.T
    obtain ⟨v1, v2, rfl, r1, r2⟩ := ra.two
    exact ⟨a, [v1, v2], rfl, same_t w'.wx.gh hs1, rfl, v1, [v2], rfl, v2, [], rfl, rfl, hs m d1 d2 ow' dn' σ' B G' H' v1 v2 e1 p ((w'.set r1).set r2)⟩) (fun ow' dn' σ' G' H' p w' => hd ow' dn' σ' G' H' (by rw [List.length_map] at p; exact p) w')
theorem s_forL2 {tl : TE} {i j : Nat} {ds : List (Dt × Dt)} (w : Wd K F ow dn G H σ) (h : Ed K ow dn tl (.lst (ds.map fun p => .tup [p.1, p.2]))) (P : Nat → Ow → Dn → Prop) (h0 : ∃ dn', P 0 ow dn' ∧ Le dn' dn)
    (hs : ∀ (m : Nat) d1 d2 ow' dn' (σ' : L2.St) B G' H' v1 v2, ds[m]? = some (d1, d2) → P m ow' dn' → Wd K (F.to B) ow' ((dn'.set i (some d1)).set j (some d2)) G' H' ((σ'.set i (some v1)).set j (some v2)) → t { D with nx := At K (F.to B) (P (m + 1)), ct := At K (F.to B) (P (m + 1)), bk := u D } ((σ'.set i (some v1)).set j (some v2)) H')
    (hd : ∀ ow' dn' σ' G' H', P ds.length ow' dn' → Wd K F ow' dn' G' H' σ' → u D σ' H') : tSeq (tFor (iList K tl) (gTup K 2 (gCons (gName i) (gCons (gName j) gNil))) t) u D σ H := x_forL2 w h P h0 hs hd
/-! ### x.clear() -/
theorem x_clear {j : Nat} {a : Addr} {ds : List (Key × Dt)} (w : Wd K F ow dn G H σ) (hj : ow[j]? = some (a, .dct ds)) (ho : Ed K ow dn ta (.adr a))
    (k : ∀ G' H', Wd K F (ow.set j (a, .dct [])) dn G' H' σ → D.nx σ H') : tDrop (tBM0 K "dict" rDClear ta) D σ H :=
  ho σ G H w.wx _ fun v H1 e r => by
    have z := r.a
    subst z
    have w1 := w.ext e
    obtain ⟨vs, q, r⟩ := (w1.wx.own _ (List.mem_of_getElem? hj)).2
    have q : H1 a = some (.dK vs) := q
    have ty : tyV K "dict" (.ref a) H1 := .inr (.inr (.inl ⟨rfl, .inl ⟨vs, q⟩⟩))
    refine ⟨ty, a, vs, rfl, rfl, q, k _ _ (w1.put hj ⟨(w1.wx.own _ (List.mem_of_getElem? hj)).1, [], upd_same, .nil⟩)⟩
theorem s_clear {j : Nat} {a : Addr} {ds : List (Key × Dt)} (w : Wd K F ow dn G H σ) (hj : ow[j]? = some (a, .dct ds)) (ho : Ed K ow dn ta (.adr a))
    (k : ∀ G' H', Wd K F (ow.set j (a, .dct [])) dn G' H' σ → u D σ H') : tSeq (tDrop (tBM0 K "dict" rDClear ta)) u D σ H := x_clear w hj ho k
/-! ### a number in a pair -/
theorem ed_niT {i a b : Int} (ha : Ed K ow dn ta (.int i)) (hb : Ed K ow dn tb (.tup [.int a, .int b])) : Ed K ow dn (tOp (rIn K true) ta tb) (.bl (!(decide (i = a) || decide (i = b)))) := ed_op ha hb fun G H e v u r1 r2 Q q => by
  obtain ⟨p, us, rfl, hs, ra⟩ := r2.T
  obtain ⟨v1, v2, rfl, q1, q2⟩ := ra.two
  rw [q1.i, q2.i] at hs
  rw [r1.i]
  refine ⟨p, _, rfl, .inr (same_t e hs), rfl, rfl, q _ H (Same.refl H) ?_⟩
  have : inV (.int i) [.int a, .int b] = (decide (i = a) || decide (i = b)) := by
    show ((a == i) || ((b == i) || false)) = _
    rw [Bool.or_false]
    have sw : ∀ x : Int, (x == i) = decide (i = x) := fun x => by
      by_cases z : i = x
      · rw [z, decide_eq_true rfl]; exact beq_self_eq_true x
      · rw [decide_eq_false z]; exact beq_eq_false_iff_ne.mpr fun q => z q.symm
    rw [sw, sw]
  rw [this]
  exact .bl _
end
end BW

set_option Elab.async false
set_option linter.all false
set_option maxRecDepth 100000
set_option maxHeartbeats 4000000
/-! BM1: what the first defs compute, in plain Lean. -/
namespace BW
open PySem L2 PySem.Spec

abbrev Sr := Option (Int × Int)
/-- a stretch or None, as a datum -/
def dS : Sr → Dt
  | none => .non
  | some p => .tup [.int p.1, .int p.2]
theorem dS_fl (s : Sr) : (dS s).fl = true := by cases s <;> rfl
theorem dS_isN (s : Sr) : (dS s).isN = s.isNone := by cases s <;> rfl

/-! ### the law's stream of numbers -/
def sqF (c : Int) : Nat → Int
  | 0 => c % 2147483647 + 48271
  | k + 1 => (sqF c k * sqF c k + 48271 * sqF c k + (k : Int)) % 2147483647
theorem sqF_lt (c : Int) (k : Nat) : 0 ≤ sqF c k ∧ sqF c k < 4294967296 := by
  cases k with
  | zero => unfold sqF; omega
  | succ k => unfold sqF; omega
def stF (c : Int) (m : Nat) : List Int := (List.range m).map fun k => sqF c (k + 2)
def runF (c : Int) (m : Nat) : List Int := (List.range m).map fun k => sqF c (k + 1)
theorem runF_succ (c : Int) (m : Nat) : runF c (m + 1) = runF c m ++ [sqF c (m + 1)] := by
  unfold runF
  rw [List.range_succ, List.map_append]
  rfl
theorem runF_len (c : Int) (m : Nat) : (runF c m).length = m := by unfold runF; simp
theorem stF_len (c : Int) (m : Nat) : (stF c m).length = m := by unfold stF; simp
theorem run_cut (c : Int) (m : Nat) : cutD ((runF c (m + 1)).map Dt.int) (some 1) none = (stF c m).map Dt.int := by
  unfold cutD
  have h1 : HT.sIx ((runF c (m + 1)).map Dt.int).length 0 (some 1) = 1 := by
    rw [show HT.sIx ((runF c (m + 1)).map Dt.int).length 0 (some 1) = min 1 ((runF c (m + 1)).map Dt.int).length from HT.sIx_nat _ 0 1]
    rw [List.length_map, runF_len]
    omega
  rw [h1, HT.sIx_none, List.length_map, runF_len]
  have h2 : runF c (m + 1) = sqF c 1 :: stF c m := by
    unfold runF stF
    rw [List.range_succ_eq_map, List.map_cons, List.map_map]
    rfl
  rw [h2]
  show ((stF c m).map Dt.int).take (m + 1 - 1) = _
  rw [show m + 1 - 1 = m from rfl]
  exact List.take_of_length_le (by rw [List.length_map, stF_len]; exact Nat.le_refl _)
theorem st3 (c : Int) : ∃ x y z, stF c 3 = [x, y, z] := ⟨_, _, _, rfl⟩
theorem st4 (c : Int) : ∃ x y z u, stF c 4 = [x, y, z, u] := ⟨_, _, _, _, rfl⟩
abbrev R_stream (ds : List Dt) (d : Dt) : Prop := ∃ c m : Int, ds = [.int c, .int m] ∧ (0 ≤ m ∧ m ≤ 1000) ∧ d = .lst ((stF c m.toNat).map .int)
/-- a cell of the script -/
abbrev cellF (ns : List Int) (k : Int) : Int := if k < ns.length then ns.getD k.toNat 0 else 0
abbrev R_cell (ds : List Dt) (d : Dt) : Prop := ∃ (ns : List Int) (k : Int), ds = [.lst (ns.map .int), .int k] ∧ 0 ≤ k ∧ d = .int (cellF ns k)
/-- a number of the range -/
def numF (x : Int) : Int := if x % 8 < 4 then x / 8 % 27 - 6 else
  sel3 (min 2 (x % 8 - 4)) (x / 8 % 2000001 - 1000000) (sel4 (x / 8 % 4) 1000000 (-1000000) 999999 (-999999)) (x / 8 % 2001 - 1000)
theorem numF_lt (x : Int) : -1000000 ≤ numF x ∧ numF x ≤ 1000000 := by
  unfold numF sel3 sel4
  split
  · omega
  · repeat' split
    all_goals omega
abbrev R_number (ds : List Dt) (d : Dt) : Prop := ∃ x : Int, ds = [.int x] ∧ d = .int (numF x)
/-- a stretch -/
def strF (x y : Int) : Int × Int := (numF x, min 1000000 (numF x + sel4 (y % 4) 0 (y / 4 % 9) (y / 4 % 3000) (y / 4 % 2000001)))
theorem strF_lt (x y : Int) : -1000000 ≤ (strF x y).1 ∧ (strF x y).1 ≤ (strF x y).2 ∧ (strF x y).2 ≤ 1000000 := by
  have h := numF_lt x
  have h2 : 0 ≤ sel4 (y % 4) 0 (y / 4 % 9) (y / 4 % 3000) (y / 4 % 2000001) := by
    unfold sel4
    repeat' split
    all_goals omega
  unfold strF
  show -1000000 ≤ numF x ∧ numF x ≤ min 1000000 (numF x + _) ∧ min 1000000 (numF x + _) ≤ 1000000
  omega
abbrev R_stretch (ds : List Dt) (d : Dt) : Prop := ∃ x y : Int, ds = [.int x, .int y] ∧ d = dS (some (strF x y))
/-! ### what is asked of an answer -/
def Dt.whole : Dt → Bool
  | .int _ => true
  | _ => false
def Dt.isS : Dt → Bool
  | .tup [a, b] => a.whole && b.whole
  | _ => false
abbrev R_whole (ds : List Dt) (d : Dt) : Prop := ∃ x, ds = [x] ∧ x.pl = true ∧ d = .bl x.whole
/-- of what is made here -/
abbrev R_is (ds : List Dt) (d : Dt) : Prop := ∃ x : Sr, ds = [dS x] ∧ d = .bl x.isSome
abbrev R_alike (ds : List Dt) (d : Dt) : Prop := ∃ x y : Sr, ds = [dS x, dS y] ∧ d = .bl (decide (x = y))
/-! ### the stretches' defs -/
def joinF : Sr → Sr → Sr
  | none, b => b
  | a, none => a
  | some a, some b => some (min a.1 b.1, max a.2 b.2)
def metF : Sr → Sr → Sr
  | some a, some b => if max a.1 b.1 > min a.2 b.2 then none else some (max a.1 b.1, min a.2 b.2)
  | _, _ => none
abbrev R_joined (ds : List Dt) (d : Dt) : Prop := ∃ x y : Sr, ds = [dS x, dS y] ∧ d = dS (joinF x y)
abbrev R_met (ds : List Dt) (d : Dt) : Prop := ∃ x y : Sr, ds = [dS x, dS y] ∧ d = dS (metF x y)
def hasF : Sr → Int → Bool
  | none, _ => false
  | some a, n => decide (a.1 ≤ n) && decide (n ≤ a.2)
abbrev R_has (ds : List Dt) (d : Dt) : Prop := ∃ (x : Sr) (n : Int), ds = [dS x, .int n] ∧ d = .bl (hasF x n)
theorem eqv_S (x y : Int × Int) : PyData.eqv (toP (dS (some x))) (toP (dS (some y))) = decide (some x = some y) := by
  show ((x.1 == y.1) && ((x.2 == y.2) && true)) = _
  rw [Bool.and_true, Bool.eq_iff_iff]
  simp [Prod.ext_iff]
end BW
namespace BW
open PySem L2 PySem.Spec
/-! ### k01: the pair -/
def xsF (ns : List Int) (k : Int) (m j : Nat) : Int := (stF (cellF ns k) m).getD j 0
def pairF (ns : List Int) : Sr × Sr :=
  let one := strF (xsF ns 0 4 0) (xsF ns 0 4 1)
  let low := sel3 (xsF ns 1 4 2 / 3 % 3) one.1 one.2 (min 1000000 (one.2 + 1))
  (if xsF ns 0 4 2 % 9 = 0 then none else some one, if xsF ns 0 4 3 % 9 = 0 then none else
    some (if xsF ns 1 4 2 % 3 = 0 then (low, min 1000000 (low + xsF ns 1 4 3 % 9)) else strF (xsF ns 1 4 0) (xsF ns 1 4 1)))
theorem xs_map (ns : List Int) (k : Int) (m : Nat) : (stF (cellF ns k) m).map Dt.int = (List.range m).map fun j => Dt.int (xsF ns k m j) := by
  apply List.ext_getElem?
  intro i
  rw [List.getElem?_map, List.getElem?_map]
  unfold xsF
  by_cases h : i < m
  · have h2 : i < (stF (cellF ns k) m).length := by rw [stF_len]; exact h
    rw [List.getElem?_eq_getElem h2, List.getElem?_eq_getElem (by simpa using h)]
    simp [h2]
  · rw [List.getElem?_eq_none (by rw [stF_len]; omega), List.getElem?_eq_none (by simpa using h)]
    rfl
abbrev R_pair (ds : List Dt) (d : Dt) : Prop := ∃ ns : List Int, ds = [.lst (ns.map .int)] ∧ d = .lst [dS (pairF ns).1, dS (pairF ns).2]
abbrev R_law (ds : List Dt) (d : Dt) : Prop := ∃ ns : List Int, ds = [.lst (ns.map .int)] ∧ ns.length ≤ 63 ∧ d = .bl true
end BW
namespace BW
theorem has_met (a b : Sr) (n : Int) : hasF (metF a b) n = (hasF a n && hasF b n) := by
  rcases a with _ | a
  · cases b <;> rfl
  rcases b with _ | b
  · simp [metF, hasF]
  show hasF (if max a.1 b.1 > min a.2 b.2 then none else some (max a.1 b.1, min a.2 b.2)) n = _
  split
  · rename_i h
    show false = (_ && _)
    rw [eq_comm, Bool.eq_false_iff]
    intro q
    simp only [hasF, Bool.and_eq_true, decide_eq_true_eq] at q
    omega
  · rename_i h
    simp only [hasF]
    rw [Bool.eq_iff_iff]
    simp only [Bool.and_eq_true, decide_eq_true_eq]
    omega
theorem has_join (a b : Sr) (n : Int) : (hasF (joinF a b) n || (!hasF a n && !hasF b n)) = true := by
  rcases a with _ | a
  · rcases b with _ | b
    · rfl
    · simp only [joinF, hasF]
      cases decide (b.1 ≤ n) <;> cases decide (n ≤ b.2) <;> rfl
  rcases b with _ | b
  · simp only [joinF, hasF]
    cases decide (a.1 ≤ n) <;> cases decide (n ≤ a.2) <;> rfl
  simp only [joinF, hasF]
  simp only [Bool.or_eq_true, Bool.and_eq_true, Bool.not_eq_true', decide_eq_true_eq, Bool.and_eq_false_iff, decide_eq_false_iff_not]
  omega
end BW

set_option Elab.async false
set_option linter.all false
set_option maxRecDepth 100000
set_option maxHeartbeats 4000000
/-! BM2: sums, differences, products, rests. -/
namespace BW
open PySem L2 PySem.Spec
abbrev Big : Int := 1000000
def cutF (lo hi : Int) : Sr := if lo > 1000000 ∨ hi < -1000000 then none else some (max lo (-1000000), min hi 1000000)
abbrev R_cut (ds : List Dt) (d : Dt) : Prop := ∃ a b : Int, ds = [.int a, .int b] ∧ d = dS (cutF a b)
def plusF (a b : Int × Int) : Sr := cutF (a.1 + b.1) (a.2 + b.2)
def minusF (a b : Int × Int) : Sr := cutF (a.1 - b.2) (a.2 - b.1)
abbrev R_plus (ds : List Dt) (d : Dt) : Prop := ∃ a b : Int × Int, ds = [dS (some a), dS (some b)] ∧ d = dS (plusF a b)
abbrev R_minus (ds : List Dt) (d : Dt) : Prop := ∃ a b : Int × Int, ds = [dS (some a), dS (some b)] ∧ d = dS (minusF a b)
def oneF (p : Int × Int) (x : Int) : Int := if x % 4 < 2 then sel2 (x % 4) p.1 p.2 else p.1 + x / 4 % (p.2 - p.1 + 1)
theorem oneF_in {p : Int × Int} (h : p.1 ≤ p.2) (x : Int) : p.1 ≤ oneF p x ∧ oneF p x ≤ p.2 := by
  unfold oneF sel2
  split
  · split <;> omega
  · have h1 := Int.emod_nonneg (x / 4) (show p.2 - p.1 + 1 ≠ 0 by omega)
    have h2 := Int.emod_lt_of_pos (x / 4) (show 0 < p.2 - p.1 + 1 by omega)
    omega
abbrev R_one_of (ds : List Dt) (d : Dt) : Prop := ∃ (p : Int × Int) (x : Int), ds = [dS (some p), .int x] ∧ p.1 ≤ p.2 ∧ d = .int (oneF p x)
/-- a stretch near a limit -/
def edgeF (one : Int × Int) (z0 z1 z2 : Int) : Int :=
  max (-1000000) (min 1000000 (if z0 % 3 = 1 then sel2 (z1 / 2 % 2) one.1 one.2 - sel2 (z1 % 2) 1000000 (-1000000) + z2 % 3 - 1
    else sel2 (z1 % 2) 1000000 (-1000000) - sel2 (z1 / 2 % 2) one.1 one.2 + z2 % 3 - 1))
def nearF (one other : Int × Int) (z0 z1 z2 : Int) : Int × Int := if z0 % 3 = 0 then other else
  sel2 (z1 / 12 % 2) (edgeF one z0 z1 z2, min 1000000 (edgeF one z0 z1 z2 + sel3 (z1 / 4 % 3) 0 1 (z2 / 3 % 3000)))
    (max (-1000000) (edgeF one z0 z1 z2 - sel3 (z1 / 4 % 3) 0 1 (z2 / 3 % 3000)), edgeF one z0 z1 z2)
theorem nearF_lt {one other : Int × Int} (h : other.1 ≤ other.2) (z0 z1 z2 : Int) : (nearF one other z0 z1 z2).1 ≤ (nearF one other z0 z1 z2).2 := by
  have h2 : 0 ≤ sel3 (z1 / 4 % 3) 0 1 (z2 / 3 % 3000) := by
    unfold sel3
    repeat' split
    all_goals omega
  have h3 : -1000000 ≤ edgeF one z0 z1 z2 ∧ edgeF one z0 z1 z2 ≤ 1000000 := by unfold edgeF; omega
  unfold nearF
  split
  · exact h
  · generalize edgeF one z0 z1 z2 = e at *
    generalize sel3 (z1 / 4 % 3) 0 1 (z2 / 3 % 3000) = s at *
    unfold sel2
    split
    · show e ≤ min 1000000 (e + s); omega
    · show max (-1000000) (e - s) ≤ e; omega
abbrev R_near (ds : List Dt) (d : Dt) : Prop := ∃ (a b : Int × Int) (z0 z1 z2 : Int), ds = [dS (some a), dS (some b), .lst [.int z0, .int z1, .int z2]] ∧ d = dS (some (nearF a b z0 z1 z2))
/-- whether a number lies there, where it is none beyond -/
def hasL (s : Sr) (n : Int) : Bool := (decide (n < -1000000) || decide (n > 1000000)) || hasF s n
abbrev R_hasL (ds : List Dt) (d : Dt) : Prop := ∃ (x : Sr) (n : Int), ds = [dS x, .int n] ∧ d = .bl (hasL x n)
theorem has_cut {lo hi n : Int} (h1 : lo ≤ n) (h2 : n ≤ hi) : hasL (cutF lo hi) n = true := by
  unfold hasL
  by_cases h3 : n < -1000000 ∨ n > 1000000
  · simp only [Bool.or_eq_true, decide_eq_true_eq]
    exact .inl h3
  · simp only [Bool.or_eq_true, decide_eq_true_eq]
    refine .inr ?_
    unfold cutF
    rw [if_neg (by omega)]
    simp only [hasF, Bool.and_eq_true, decide_eq_true_eq]
    omega
theorem has_plus {a b : Int × Int} {x y : Int} (h1 : a.1 ≤ x) (h2 : x ≤ a.2) (h3 : b.1 ≤ y) (h4 : y ≤ b.2) : hasL (plusF a b) (x + y) = true := has_cut (by omega) (by omega)
theorem has_minus {a b : Int × Int} {x y : Int} (h1 : a.1 ≤ x) (h2 : x ≤ a.2) (h3 : b.1 ≤ y) (h4 : y ≤ b.2) : hasL (minusF a b) (x - y) = true := has_cut (by omega) (by omega)

/-! ### products and rests -/
def Rng (p : Int × Int) : Prop := -1000000 ≤ p.1 ∧ p.1 ≤ p.2 ∧ p.2 ≤ 1000000
def minL (x : Int) : List Int → Int
  | [] => x
  | y :: r => minL (min x y) r
def maxL (x : Int) : List Int → Int
  | [] => x
  | y :: r => maxL (max x y) r
theorem minL_le : ∀ (r : List Int) (x : Int), minL x r ≤ x ∧ (∀ y ∈ r, minL x r ≤ y) ∧ (minL x r = x ∨ minL x r ∈ r)
  | [], x => ⟨Int.le_refl _, fun _ h => (List.not_mem_nil h).elim, .inl rfl⟩
  | y :: r, x => by
    obtain ⟨h1, h2, h3⟩ := minL_le r (min x y)
    show minL (min x y) r ≤ x ∧ (∀ z ∈ y :: r, minL (min x y) r ≤ z) ∧ (minL (min x y) r = x ∨ minL (min x y) r ∈ y :: r)
    refine ⟨by omega, fun z hz => ?_, ?_⟩
    · rcases List.mem_cons.mp hz with e | e
      · subst e; omega
      · exact h2 z e
    · rcases h3 with e | e
      · rw [e]
        by_cases k : x ≤ y
        · exact .inl (by omega)
        · exact .inr (List.mem_cons.mpr (.inl (by omega)))
      · exact .inr (List.mem_cons.mpr (.inr e))
theorem maxL_le : ∀ (r : List Int) (x : Int), x ≤ maxL x r ∧ (∀ y ∈ r, y ≤ maxL x r) ∧ (maxL x r = x ∨ maxL x r ∈ r)
  | [], x => ⟨Int.le_refl _, fun _ h => (List.not_mem_nil h).elim, .inl rfl⟩
  | y :: r, x => by
    obtain ⟨h1, h2, h3⟩ := maxL_le r (max x y)
    show x ≤ maxL (max x y) r ∧ (∀ z ∈ y :: r, z ≤ maxL (max x y) r) ∧ (maxL (max x y) r = x ∨ maxL (max x y) r ∈ y :: r)
    refine ⟨by omega, fun z hz => ?_, ?_⟩
    · rcases List.mem_cons.mp hz with e | e
      · subst e; omega
      · exact h2 z e
    · rcases h3 with e | e
      · rw [e]
        by_cases k : y ≤ x
        · exact .inl (by omega)
        · exact .inr (List.mem_cons.mpr (.inl (by omega)))
      · exact .inr (List.mem_cons.mpr (.inr e))
section
variable {K : PySem.W.Frag} {ow : Ow} {dn : Dn} {tr : TA}
theorem ed_minL {x : Int} {r : List Int} (h : Ea K ow dn tr [.lst ((x :: r).map .int)]) : Ed K ow dn (tCB (rMin K) tr) (.int (minL x r)) := ed_cb h fun G H e vs r' Q q => by
  obtain ⟨v, rfl, r1⟩ := r'.one
  obtain ⟨a, us, rfl, hs, ra⟩ := r1.L
  rw [ra.ints] at hs
  refine ⟨a, x :: r, rfl, e.seq hs, by simp, fun m hm hle => ?_⟩
  obtain ⟨h1, h2, h3⟩ := minL_le r x
  have k1 : m ≤ minL x r := by
    rcases h3 with k | k
    · rw [k]; exact hle x (by simp)
    · exact hle _ (by simp [k])
  have k2 : minL x r ≤ m := by
    rcases List.mem_cons.mp hm with k | k
    · rw [k]; exact h1
    · exact h2 m k
  have : m = minL x r := by omega
  subst this
  exact q _ H (Same.refl H) (.int _)
theorem ed_maxL {x : Int} {r : List Int} (h : Ea K ow dn tr [.lst ((x :: r).map .int)]) : Ed K ow dn (tCB (rMax K) tr) (.int (maxL x r)) := ed_cb h fun G H e vs r' Q q => by
  obtain ⟨v, rfl, r1⟩ := r'.one
  obtain ⟨a, us, rfl, hs, ra⟩ := r1.L
  rw [ra.ints] at hs
  refine ⟨a, x :: r, rfl, e.seq hs, by simp, fun m hm hle => ?_⟩
  obtain ⟨h1, h2, h3⟩ := maxL_le r x
  have k1 : maxL x r ≤ m := by
    rcases h3 with k | k
    · rw [k]; exact hle x (by simp)
    · exact hle _ (by simp [k])
  have k2 : m ≤ maxL x r := by
    rcases List.mem_cons.mp hm with k | k
    · rw [k]; exact h1
    · exact h2 m k
  have : m = maxL x r := by omega
  subst this
  exact q _ H (Same.refl H) (.int _)
end
def loF (a b : Int × Int) : Int := minL (a.1 * b.1) [a.1 * b.2, a.2 * b.1, a.2 * b.2]
def hiF (a b : Int × Int) : Int := maxL (a.1 * b.1) [a.1 * b.2, a.2 * b.1, a.2 * b.2]
def timesF (a b : Int × Int) : Sr := cutF (loF a b) (hiF a b)
abbrev R_times (ds : List Dt) (d : Dt) : Prop := ∃ a b : Int × Int, ds = [dS (some a), dS (some b)] ∧ Rng a ∧ Rng b ∧ d = dS (timesF a b)
abbrev R_products (ds : List Dt) (d : Dt) : Prop := ∃ a b : Int × Int, ds = [dS (some a), dS (some b)] ∧ Rng a ∧ Rng b ∧ d = dS (timesF a b)
def restF (a : Int × Int) (by' : Int) : Int × Int := if a.1 / by' = a.2 / by' then (a.1 % by', a.2 % by') else (0, by' - 1)
abbrev R_rest (ds : List Dt) (d : Dt) : Prop := ∃ (a : Int × Int) (n : Int), ds = [dS (some a), .int n] ∧ 0 < n ∧ n ≤ 1000000 ∧ d = dS (some (restF a n))
/-- a product lies between the products of ends -/
theorem mul_between {a1 a2 x y : Int} (h1 : a1 ≤ x) (h2 : x ≤ a2) : min (a1 * y) (a2 * y) ≤ x * y ∧ x * y ≤ max (a1 * y) (a2 * y) := by
  rcases Int.le_total 0 y with h | h
  · have k1 := Int.mul_le_mul_of_nonneg_right h1 h
    have k2 := Int.mul_le_mul_of_nonneg_right h2 h
    omega
  · have k1 := Int.mul_le_mul_of_nonpos_right h1 h
    have k2 := Int.mul_le_mul_of_nonpos_right h2 h
    omega
theorem mul_in {a b : Int × Int} {x y : Int} (h1 : a.1 ≤ x) (h2 : x ≤ a.2) (h3 : b.1 ≤ y) (h4 : y ≤ b.2) : loF a b ≤ x * y ∧ x * y ≤ hiF a b := by
  have k := mul_between (y := y) h1 h2
  have k1 := mul_between (y := a.1) h3 h4
  have k2 := mul_between (y := a.2) h3 h4
  rw [Int.mul_comm b.1 a.1, Int.mul_comm b.2 a.1, Int.mul_comm y a.1] at k1
  rw [Int.mul_comm b.1 a.2, Int.mul_comm b.2 a.2, Int.mul_comm y a.2] at k2
  unfold loF hiF
  show min (min (min (a.1 * b.1) (a.1 * b.2)) (a.2 * b.1)) (a.2 * b.2) ≤ _ ∧ _ ≤ max (max (max (a.1 * b.1) (a.1 * b.2)) (a.2 * b.1)) (a.2 * b.2)
  omega
theorem has_times {a b : Int × Int} {x y : Int} (h1 : a.1 ≤ x) (h2 : x ≤ a.2) (h3 : b.1 ≤ y) (h4 : y ≤ b.2) : hasL (timesF a b) (x * y) = true := has_cut (mul_in h1 h2 h3 h4).1 (mul_in h1 h2 h3 h4).2
theorem rest_in {a : Int × Int} {x n : Int} (hn : 0 < n) (h1 : a.1 ≤ x) (h2 : x ≤ a.2) : (restF a n).1 ≤ x - x / n * n ∧ x - x / n * n ≤ (restF a n).2 := by
  have e : ∀ z : Int, z - z / n * n = z % n := fun z => by rw [Int.emod_def, Int.mul_comm]
  rw [e]
  unfold restF
  split
  · rename_i h
    have k1 := Int.ediv_le_ediv hn h1
    have k2 := Int.ediv_le_ediv hn h2
    have q1 : x / n = a.1 / n := by omega
    rw [Int.emod_def, Int.emod_def, Int.emod_def, q1, ← h]
    show a.1 - _ ≤ _ ∧ _ ≤ a.2 - _
    omega
  · have k1 := Int.emod_nonneg x (show n ≠ 0 by omega)
    have k2 := Int.emod_lt_of_pos x hn
    show (0 : Int) ≤ _ ∧ _ ≤ n - 1
    omega
end BW

set_option Elab.async false
set_option linter.all false
set_option maxRecDepth 100000
set_option maxHeartbeats 4000000
/-! BM4: expressions and conditions, their worth; how the laws write them. -/
namespace BW
open PySem L2 PySem.Spec

inductive Ex
  | num (i : Int)
  | nam (s : Str)
  | op (o : Str) (l r : Ex)
def Ex.dt : Ex → Dt
  | .num i => .int i
  | .nam s => .str s
  | .op o l r => .tup [.str o, l.dt, r.dt]
def Ex.deep : Ex → Nat
  | .num _ => 1
  | .nam _ => 1
  | .op _ l r => max l.deep r.deep + 1
/-- a good expression of the names ns -/
def Ex.ok (ns : List Str) : Ex → Prop
  | .num i => -1000000 ≤ i ∧ i ≤ 1000000
  | .nam s => s ∈ ns
  | .op o l r => l.ok ns ∧ r.ok ns ∧ ((o = "rest" ∧ ∃ m, r = .num m ∧ 1 ≤ m) ∨ o = "+" ∨ o = "-" ∨ o = "*")
def clipF (x : Int) : Option Int := if -1000000 ≤ x ∧ x ≤ 1000000 then some x else none
def vI (ds : List (Key × Dt)) (s : Str) : Int := match valD ds (.inr s) with | some (.int i) => i | _ => 0
def opF (o : Str) (a b : Int) : Option Int :=
  if o = "rest" then some (a % b) else clipF (if o = "+" then a + b else if o = "-" then a - b else a * b)
def worthF (ds : List (Key × Dt)) : Ex → Option Int
  | .num i => some i
  | .nam s => some (vI ds s)
  | .op o l r => match worthF ds l, worthF ds r with
    | some a, some b => opF o a b
    | _, _ => none
def dO : Option Int → Dt
  | none => .non
  | some i => .int i
theorem dO_isN (o : Option Int) : (dO o).isN = o.isNone := by cases o <;> rfl
structure HeldOk (ds : List (Key × Dt)) (ns : List Str) : Prop where
  all : ∀ s ∈ ns, ∃ i, valD ds (.inr s) = some (.int i) ∧ -1000000 ≤ i ∧ i ≤ 1000000
  nd : (ds.map (·.1)).Nodup
  whole : ∀ p ∈ ds, ∃ i, p.2 = .int i
theorem HeldOk.get {ds : List (Key × Dt)} {ns : List Str} (h : HeldOk ds ns) {s : Str} (m : s ∈ ns) : valD ds (.inr s) = some (.int (vI ds s)) ∧ -1000000 ≤ vI ds s ∧ vI ds s ≤ 1000000 := by
  obtain ⟨i, q, a, b⟩ := h.all s m
  unfold vI
  rw [q]
  exact ⟨rfl, a, b⟩
theorem clipF_lt {x y : Int} (h : clipF x = some y) : -1000000 ≤ y ∧ y ≤ 1000000 := by
  unfold clipF at h
  split at h
  · rename_i k; cases h; exact k
  · cases h
theorem worthF_lt {ds : List (Key × Dt)} {ns : List Str} (h : HeldOk ds ns) : ∀ {e : Ex}, e.ok ns → ∀ {i : Int}, worthF ds e = some i → -1000000 ≤ i ∧ i ≤ 1000000
  | .num j, ho, i, q => by cases q; exact ho
  | .nam s, ho, i, q => by cases q; exact (h.get ho).2
  | .op o l r, ho, i, q => by
    obtain ⟨h1, h2, h3⟩ := ho
    unfold worthF at q
    cases k1 : worthF ds l with
    | none => rw [k1] at q; cases q
    | some a =>
      cases k2 : worthF ds r with
      | none => rw [k1, k2] at q; cases q
      | some b =>
        rw [k1, k2] at q
        have q : opF o a b = some i := q
        unfold opF at q
        split at q
        · rename_i ho
          cases q
          rcases h3 with ⟨_, m, rfl, hm⟩ | e | e | e
          · have hm2 : m ≤ 1000000 := h2.2
            cases k2
            have := Int.emod_nonneg a (show b ≠ 0 by omega)
            have := Int.emod_lt_of_pos a (show 0 < b by omega)
            omega
          all_goals (rw [ho] at e; exact absurd e (by decide))
        · exact clipF_lt q
abbrev R_worth (n : Nat) (as : List Dt) (d : Dt) : Prop := ∃ (e : Ex) (ds : List (Key × Dt)) (ns : List Str), as = [e.dt, .dct ds] ∧ e.ok ns ∧ HeldOk ds ns ∧ e.deep ≤ n ∧ d = dO (worthF ds e)

/-! ### conditions -/
structure Cn where
  o : Str
  l : Ex
  r : Ex
def Cn.dt (c : Cn) : Dt := .tup [.str c.o, c.l.dt, c.r.dt]
def Cn.ok (ns : List Str) (c : Cn) : Prop := c.l.ok ns ∧ c.r.ok ns ∧ (c.o = "<" ∨ c.o = "<=" ∨ c.o = "=" ∨ c.o = "!=")
def holdsF (ds : List (Key × Dt)) (c : Cn) : Option Bool :=
  match worthF ds c.l, worthF ds c.r with
  | some a, some b => some (if c.o = "<" then decide (a < b) else if c.o = "<=" then decide (a ≤ b) else if c.o = "=" then decide (a = b) else !decide (a = b))
  | _, _ => none
def dOB : Option Bool → Dt
  | none => .non
  | some b => .bl b
abbrev R_holds (as : List Dt) (d : Dt) : Prop := ∃ (c : Cn) (ds : List (Key × Dt)) (ns : List Str), as = [c.dt, .dct ds] ∧ c.ok ns ∧ HeldOk ds ns ∧ c.l.deep ≤ 6 ∧ c.r.deep ≤ 6 ∧ d = dOB (holdsF ds c)

/-! ### names -/
def letF (i : Int) : Str := ⟨#[97 + i.toNat]⟩
theorem abc_at : ∀ i : Fin 26, atI ("abcdefghijklmnopqrstuvwxyz" : Str).cps.toList ((i.val : Nat) : Int) = some (97 + ((i.val : Nat) : Int).toNat) := by decide +kernel
theorem abc_at' {i : Int} (h : 0 ≤ i ∧ i < 26) : atI ("abcdefghijklmnopqrstuvwxyz" : Str).cps.toList i = some (97 + i.toNat) := by
  have := abc_at ⟨i.toNat, by omega⟩
  have e : (((⟨i.toNat, by omega⟩ : Fin 26).val : Nat) : Int) = i := by show ((i.toNat : Nat) : Int) = i; omega
  rw [e] at this
  exact this
theorem abc_len : ("abcdefghijklmnopqrstuvwxyz" : Str).length ≤ 1000000 := by decide +kernel
def sizeF (c : Int) (j : Nat) : Int := 1 + (c / 7 + (j : Int) * (c % 2)) % 8
def rowF (c : Int) (j : Nat) : List Str := ((List.range (sizeF c j).toNat).map fun p : Nat => letF ((c / 56 + (p : Int) * (1 + c / 3 % 25)) % 26)).set (c / 1456 % sizeF c j).toNat (letF ((c / 56 + 5 * (j : Int)) % 26))
def nameF (c : Int) (j : Nat) : Str := Txt.join "" (rowF c j)
def namesF (c : Int) (m : Nat) : List Str := (List.range m).map (nameF c)
theorem sizeF_lt (c : Int) (j : Nat) : 1 ≤ sizeF c j ∧ sizeF c j ≤ 8 := by unfold sizeF; omega
theorem letF_len (i : Int) : (letF i).length = 1 := rfl
theorem rowF_len (c : Int) (j : Nat) : (rowF c j).length = (sizeF c j).toNat := by unfold rowF; rw [List.length_set, List.length_map, List.length_range]
theorem rowF_ones (c : Int) (j : Nat) : ∀ s ∈ rowF c j, s.length = 1 := fun s h => by
  unfold rowF at h
  rcases List.mem_or_eq_of_mem_set h with h | h
  · obtain ⟨p, _, rfl⟩ := List.mem_map.mp h; exact letF_len _
  · rw [h]; exact letF_len _
theorem sum_ones : ∀ {ys : List Str}, (∀ s ∈ ys, s.length = 1) → (ys.map (·.length)).sum = ys.length
  | [], _ => rfl
  | s :: r, h => by
    rw [List.map_cons, List.sum_cons, sum_ones fun x hx => h x (List.mem_cons_of_mem _ hx), h s List.mem_cons_self, List.length_cons]
    omega
theorem rowF_sum (c : Int) (j : Nat) : ((rowF c j).map (·.length)).sum + (rowF c j).length * ("" : Str).length ≤ 16777216 := by
  rw [sum_ones (rowF_ones c j), rowF_len, show ("" : Str).length = 0 from rfl]
  have := sizeF_lt c j
  omega
theorem namesF_succ (c : Int) (m : Nat) : namesF c (m + 1) = namesF c m ++ [nameF c m] := by
  unfold namesF
  rw [List.range_succ, List.map_append]
  rfl
theorem namesF_len (c : Int) (m : Nat) : (namesF c m).length = m := by unfold namesF; simp
abbrev R_names (as : List Dt) (d : Dt) : Prop := ∃ c m : Int, as = [.int c, .int m] ∧ (0 ≤ c ∧ 0 ≤ m ∧ m ≤ 1000) ∧ d = .lst ((namesF c m.toNat).map .str)
theorem at_strs' {ns : List Str} {i : Int} (h : 0 ≤ i ∧ i < ns.length) : atI (ns.map Dt.str) i = some (.str (ns.getD i.toNat "")) := by
  obtain ⟨n, rfl⟩ : ∃ n : Nat, i = n := ⟨i.toNat, by omega⟩
  have hl : n < ns.length := by omega
  rw [atI_nat (v := Dt.str ns[n]) (by rw [List.getElem?_map, List.getElem?_eq_getElem hl]; rfl)]
  simp [hl]

/-! ### trees -/
def leafF (x : Int) (ns : List Str) : Ex := if x % 3 > 0 then .nam (ns.getD (x / 3 % (ns.length : Int)).toNat "") else .num (numF (x / 3))
def opS (k : Int) : Str := if k = 0 then "+" else if k = 1 then "-" else "*"
theorem opS_at {k : Int} (h : 0 ≤ k ∧ k < 3) : ∃ c, atI ("+-*" : Str).cps.toList k = some c ∧ (⟨#[c]⟩ : Str) = opS k := by
  obtain e | e | e : k = 0 ∨ k = 1 ∨ k = 2 := by omega
  all_goals (subst e; exact ⟨_, rfl, by decide⟩)
def treeF (ns : List Str) : Nat → Int → Ex
  | 0, _ => .num 0
  | n + 1, x => if n = 0 ∨ x % 5 = 0 then leafF (x / 5) ns else
    if sqF x 4 % 5 = 0 then .op "rest" (treeF ns n (sqF x 2)) (.num (1 + sqF x 3 % sel2 (sqF x 4 / 5 % 2) 9 1000000))
    else .op (opS (sqF x 4 / 5 % 3)) (treeF ns n (sqF x 2)) (treeF ns n (sqF x 3))
theorem leafF_ok (x : Int) {ns : List Str} (h : 0 < ns.length) : (leafF x ns).ok ns ∧ (leafF x ns).deep = 1 := by
  unfold leafF
  split
  · refine ⟨?_, rfl⟩
    show _ ∈ ns
    have h1 := Int.emod_nonneg (x / 3) (show (ns.length : Int) ≠ 0 by omega)
    have h2 := Int.emod_lt_of_pos (x / 3) (show (0 : Int) < ns.length by omega)
    have h3 : (x / 3 % (ns.length : Int)).toNat < ns.length := by omega
    rw [List.getD_eq_getElem?_getD, List.getElem?_eq_getElem h3]
    exact List.getElem_mem h3
  · exact ⟨numF_lt _, rfl⟩
theorem treeF_ok {ns : List Str} (h : 0 < ns.length) : ∀ (n : Nat) (x : Int), (treeF ns n x).ok ns ∧ (treeF ns n x).deep ≤ max n 1
  | 0, x => ⟨by unfold treeF; show _ ∧ _; omega, by unfold treeF; show 1 ≤ _; omega⟩
  | n + 1, x => by
    have h1 := treeF_ok h n (sqF x 2)
    have h2 := treeF_ok h n (sqF x 3)
    unfold treeF
    split
    · have := leafF_ok (x / 5) h
      exact ⟨this.1, by rw [this.2]; omega⟩
    · rename_i hn
      have hn : n ≠ 0 := fun z => hn (.inl z)
      split
      · refine ⟨⟨h1.1, ?_, .inl ⟨rfl, _, rfl, ?_⟩⟩, ?_⟩
        · show _ ∧ _
          unfold sel2
          split <;> omega
        · unfold sel2
          split <;> omega
        · show max _ 1 + 1 ≤ _
          have := h1.2
          omega
      · refine ⟨⟨h1.1, h2.1, .inr ?_⟩, ?_⟩
        · unfold opS
          split
          · exact .inl rfl
          · split
            · exact .inr (.inl rfl)
            · exact .inr (.inr rfl)
        · show max _ _ + 1 ≤ _
          have := h1.2
          have := h2.2
          omega
abbrev R_leaf (as : List Dt) (d : Dt) : Prop := ∃ (x : Int) (ns : List Str), as = [.int x, .lst (ns.map .str)] ∧ 0 < ns.length ∧ d = (leafF x ns).dt
abbrev R_tree (n : Nat) (as : List Dt) (d : Dt) : Prop := ∃ (x : Int) (ns : List Str) (m : Int), as = [.int x, .lst (ns.map .str), .int m] ∧ 0 < ns.length ∧ (1 ≤ m ∧ m ≤ n) ∧ d = (treeF ns m.toNat x).dt
def deepF (i : Int) : Int := ([1, 2, 2, 2, 3, 3, 4, 6] : List Int).getD i.toNat 0
theorem deepF_lt (i : Int) (h : 0 ≤ i ∧ i < 8) : 1 ≤ deepF i ∧ deepF i ≤ 6 := by
  obtain e | e | e | e | e | e | e | e : i = 0 ∨ i = 1 ∨ i = 2 ∨ i = 3 ∨ i = 4 ∨ i = 5 ∨ i = 6 ∨ i = 7 := by omega
  all_goals (subst e; decide)
def exprF (a b : Int) (ns : List Str) : Ex := treeF ns (deepF (a % 8)).toNat b
theorem exprF_ok (a b : Int) {ns : List Str} (h : 0 < ns.length) : (exprF a b ns).ok ns ∧ (exprF a b ns).deep ≤ 6 := by
  have := deepF_lt (a % 8) (by omega)
  have h2 := treeF_ok h (deepF (a % 8)).toNat b
  exact ⟨h2.1, Nat.le_trans h2.2 (by omega)⟩
abbrev R_expr (as : List Dt) (d : Dt) : Prop := ∃ (a b : Int) (r : List Dt) (ns : List Str), as = [.lst (.int a :: .int b :: r), .lst (ns.map .str)] ∧ 0 < ns.length ∧ d = (exprF a b ns).dt
theorem sel4_in {α : Type} (k : Int) (a b c d : α) : sel4 k a b c d = a ∨ sel4 k a b c d = b ∨ sel4 k a b c d = c ∨ sel4 k a b c d = d := by
  unfold sel4
  split
  · exact .inl rfl
  · split
    · exact .inr (.inl rfl)
    · split
      · exact .inr (.inr (.inl rfl))
      · exact .inr (.inr (.inr rfl))
def condF (x : Nat → Int) (ns : List Str) : Cn where
  o := sel4 (x 0 % 4) "<" "<=" "=" "!="
  l := if x 5 % 3 = 0 then exprF (x 2) (x 3) ns else leafF (x 1) ns
  r := if x 5 / 3 % 3 = 0 then exprF (x 6) (x 7) ns else leafF (x 4) ns
theorem condF_ok (x : Nat → Int) {ns : List Str} (h : 0 < ns.length) : (condF x ns).ok ns ∧ (condF x ns).l.deep ≤ 6 ∧ (condF x ns).r.deep ≤ 6 := by
  have hl : ∀ a, (leafF a ns).ok ns ∧ (leafF a ns).deep ≤ 6 := fun a => ⟨(leafF_ok a h).1, by rw [(leafF_ok a h).2]; omega⟩
  have h1 : (condF x ns).l.ok ns ∧ (condF x ns).l.deep ≤ 6 := by
    unfold condF
    show (if _ then _ else _ : Ex).ok ns ∧ (if _ then _ else _ : Ex).deep ≤ 6
    split
    · exact exprF_ok _ _ h
    · exact hl _
  have h2 : (condF x ns).r.ok ns ∧ (condF x ns).r.deep ≤ 6 := by
    unfold condF
    show (if _ then _ else _ : Ex).ok ns ∧ (if _ then _ else _ : Ex).deep ≤ 6
    split
    · exact exprF_ok _ _ h
    · exact hl _
  refine ⟨⟨h1.1, h2.1, ?_⟩, h1.2, h2.2⟩
  exact sel4_in _ _ _ _ _
abbrev R_cond (as : List Dt) (d : Dt) : Prop := ∃ (x : Nat → Int) (ns : List Str), as = [.lst [.int (x 0), .int (x 1), .int (x 2), .int (x 3), .int (x 4), .int (x 5), .int (x 6), .int (x 7), .int (x 8), .int (x 9), .int (x 10), .int (x 11)], .lst (ns.map .str)] ∧ 0 < ns.length ∧ d = (condF x ns).dt
/-! ### what the names hold -/
theorem putD_keys (ks : List (Key × Dt)) (k : Key) (d : Dt) (h : (ks.map (·.1)).Nodup) : ((putD ks k d).map (·.1)).Nodup := by
  unfold putD
  split
  · rw [List.map_map]
    have : ((fun p : Key × Dt => p.1) ∘ fun kv => if kv.1 = k then (kv.1, d) else kv) = fun p => p.1 := by
      funext p
      show (if p.1 = k then (p.1, d) else p).1 = p.1
      split <;> rfl
    rw [this]
    exact h
  · rename_i q
    rw [List.map_append]
    refine List.nodup_append.mpr ⟨h, by simp, fun a ha b hb e => ?_⟩
    have hb : b = k := by simpa using hb
    obtain ⟨p, hp, rfl⟩ := List.mem_map.mp ha
    exact q (List.any_eq_true.mpr ⟨p, hp, decide_eq_true (e.trans hb)⟩)
theorem putD_ints (ks : List (Key × Dt)) (k : Key) (i : Int) (h : ∀ p ∈ ks, ∃ i, p.2 = .int i) : ∀ p ∈ putD ks k (.int i), ∃ i, p.2 = .int i := by
  unfold putD
  split
  · intro p hp
    obtain ⟨q, hq, rfl⟩ := List.mem_map.mp hp
    split
    · exact ⟨i, rfl⟩
    · exact h q hq
  · intro p hp
    rcases List.mem_append.mp hp with hp | hp
    · exact h p hp
    · have : p = (k, .int i) := by simpa using hp
      exact ⟨i, by rw [this]⟩
theorem HeldOk.nil : HeldOk [] [] := ⟨fun _ h => (List.not_mem_nil h).elim, List.nodup_nil, fun _ h => (List.not_mem_nil h).elim⟩
theorem HeldOk.put {ds : List (Key × Dt)} {ns : List Str} (h : HeldOk ds ns) (s : Str) {i : Int} (hi : -1000000 ≤ i ∧ i ≤ 1000000) : HeldOk (putD ds (.inr s) (.int i)) (ns ++ [s]) where
  all := fun x hx => by
    rw [valD_put]
    split
    · exact ⟨i, rfl, hi⟩
    · rename_i q
      rcases List.mem_append.mp hx with k | k
      · exact h.all x k
      · have : x = s := by simpa using k
        exact absurd (by rw [this]) q
  nd := putD_keys _ _ _ h.nd
  whole := putD_ints _ _ _ h.whole
theorem HeldOk.eq {ds : List (Key × Dt)} {ns : List Str} (h : HeldOk ds ns) : ∃ e : Key → Bool, (∀ k x y, (k, x) ∈ ds → valD ds k = some y → Eqv 0 x y (e k)) ∧ (ds.length == ds.length && ds.all fun p => (valD ds p.1).isSome && e p.1) = true := by
  have key : ∀ (ds : List (Key × Dt)), (ds.map (·.1)).Nodup → ∀ k x, (k, x) ∈ ds → valD ds k = some x := by
    intro ds
    induction ds with
    | nil => exact fun _ _ _ h => (List.not_mem_nil h).elim
    | cons p r ih =>
      intro nd k x m
      rw [List.map_cons, List.nodup_cons] at nd
      rw [valD_cons]
      rcases List.mem_cons.mp m with e | m
      · rw [← e]; exact if_pos rfl
      · have : p.1 ≠ k := fun z => nd.1 (by rw [z]; exact List.mem_map.mpr ⟨_, m, rfl⟩)
        rw [if_neg this]
        exact ih nd.2 k x m
  refine ⟨fun _ => true, fun k x y m v => ?_, ?_⟩
  · have := key ds h.nd k x m
    rw [v] at this
    cases this
    obtain ⟨i, hi⟩ := h.whole _ m
    have hi : x = .int i := hi
    rw [hi]
    have := Eqv.int (n := 0) i i
    rw [beq_self_eq_true] at this
    exact this
  · rw [beq_self_eq_true, Bool.true_and, List.all_eq_true]
    intro p hp
    rw [key ds h.nd p.1 p.2 hp]
    rfl
theorem at2b {α : Type} {a b : α} {c : Bool} : atI [a, b] (if c then 1 else 0) = some (if c then b else a) := by cases c <;> rfl
theorem at2bi {a b : Int} {c : Bool} : atI [Dt.int a, .int b] (if c then 1 else 0) = some (.int (if c then b else a)) := by cases c <;> rfl
theorem at4s {i : Int} {a b c d : Str} (h : 0 ≤ i ∧ i < 4) : atI [Dt.str a, .str b, .str c, .str d] i = some (.str (sel4 i a b c d)) := by
  obtain e | e | e | e : i = 0 ∨ i = 1 ∨ i = 2 ∨ i = 3 := by omega
  all_goals (subst e; rfl)
theorem Ex.deep_pos : ∀ e : Ex, 1 ≤ e.deep
  | .num _ => Nat.le_refl _
  | .nam _ => Nat.le_refl _
  | .op _ _ _ => Nat.succ_le_succ (Nat.zero_le _)
theorem worth_0 {as : List Dt} {d : Dt} : ¬ R_worth 0 as d := fun ⟨e, _, _, _, _, _, h, _⟩ => by have := e.deep_pos; omega
theorem tree_0 {as : List Dt} {d : Dt} : ¬ R_tree 0 as d := fun ⟨e, _, _, _, _, h, _⟩ => by omega
theorem rest_ok {ds : List (Key × Dt)} {ns : List Str} {o : Str} {l r : Ex} {b : Int} (h : (Ex.op o l r).ok ns) (e : o = "rest") (k : worthF ds r = some b) : 1 ≤ b := by
  rcases h.2.2 with ⟨_, m, rfl, hm⟩ | z | z | z
  · cases k; exact hm
  all_goals (rw [e] at z; exact absurd z (by decide))
theorem worth_op (ds : List (Key × Dt)) (o : Str) (l r : Ex) : worthF ds (.op o l r) = (match worthF ds l, worthF ds r with | some a, some b => opF o a b | _, _ => none) := rfl
def plainF (o : Str) (a b : Int) : Int := if o = "+" then a + b else if o = "-" then a - b else a * b
theorem opF_rest {o : Str} {a b : Int} (h : o = "rest") : opF o a b = some (a % b) := if_pos h
theorem opF_out {o : Str} {a b : Int} (h : o ≠ "rest") (k : ¬ (-1000000 ≤ plainF o a b ∧ plainF o a b ≤ 1000000)) : opF o a b = none := by
  rw [opF, if_neg h]; exact if_neg k
theorem opF_in {o : Str} {a b : Int} (h : o ≠ "rest") (k : -1000000 ≤ plainF o a b ∧ plainF o a b ≤ 1000000) : opF o a b = some (plainF o a b) := by
  rw [opF, if_neg h]; exact if_pos k
theorem holdsF_none {ds : List (Key × Dt)} {c : Cn} (h : worthF ds c.l = none ∨ worthF ds c.r = none) : holdsF ds c = none := by
  unfold holdsF
  rcases h with h | h
  · rw [h]
  · rw [h]; split <;> first | rfl | (rename_i z; cases z)
def cmpF (o : Str) (a b : Int) : Bool := if o = "<" then decide (a < b) else if o = "<=" then decide (a ≤ b) else if o = "=" then decide (a = b) else !decide (a = b)
theorem holdsF_some {ds : List (Key × Dt)} {c : Cn} {a b : Int} (h : worthF ds c.l = some a) (k : worthF ds c.r = some b) : holdsF ds c = some (cmpF c.o a b) := by
  unfold holdsF
  rw [h, k]
  rfl
end BW

set_option Elab.async false
set_option linter.all false
set_option maxRecDepth 100000
set_option maxHeartbeats 4000000
/-! BM5: what an expression reaches. -/
namespace BW
open PySem L2 PySem.Spec

/-! ### a dict equals itself -/
theorem val_mem : ∀ (ds : List (Key × Dt)), (ds.map (·.1)).Nodup → ∀ k x, (k, x) ∈ ds → valD ds k = some x
  | [], _, _, _, h => (List.not_mem_nil h).elim
  | p :: r, nd, k, x, m => by
    rw [List.map_cons, List.nodup_cons] at nd
    rw [valD_cons]
    rcases List.mem_cons.mp m with e | m
    · rw [← e]; exact if_pos rfl
    · have : p.1 ≠ k := fun z => nd.1 (by rw [z]; exact List.mem_map.mpr ⟨_, m, rfl⟩)
      rw [if_neg this]
      exact val_mem r nd.2 k x m
theorem Eqv.is {n : Nat} {d e : Dt} {b c : Bool} (h : Eqv n d e b) (q : b = c) : Eqv n d e c := by rw [← q]; exact h
theorem Eqv.self {ds : List (Key × Dt)} {n : Nat} (nd : (ds.map (·.1)).Nodup) (h : ∀ p ∈ ds, Eqv n p.2 p.2 true) : Eqv (n + 1) (.dct ds) (.dct ds) true := by
  refine (Eqv.dct (fun _ => true) fun k x y m v => ?_).is ?_
  · have := val_mem ds nd k x m
    rw [v] at this
    cases this
    exact h _ m
  · rw [beq_self_eq_true, Bool.true_and, List.all_eq_true]
    intro p hp
    rw [val_mem ds nd p.1 p.2 hp]
    rfl
theorem Eqv.S {n : Nat} (p : Int × Int) : Eqv (n + 1) (dS (some p)) (dS (some p)) true := by
  refine (Eqv.tup (fun _ => true) fun j x y hx hy => ?_).is (by rfl)
  rw [hx] at hy
  cases hy
  match j, hx with
  | 0, hx => cases hx; exact (Eqv.int _ _).is (beq_self_eq_true _)
  | 1, hx => cases hx; exact (Eqv.int _ _).is (beq_self_eq_true _)
  | j + 2, hx => cases hx

/-! ### what is known of names -/
structure KnownOk (ds : List (Key × Dt)) (ns : List Str) : Prop where
  all : ∀ s ∈ ns, ∃ p : Int × Int, valD ds (.inr s) = some (dS (some p)) ∧ Rng p
  nd : (ds.map (·.1)).Nodup
  keys : ∀ q ∈ ds, ∃ (s : Str) (p : Int × Int), q = (.inr s, dS (some p)) ∧ Rng p ∧ s ∈ ns
def toSr : Dt → Int × Int
  | .tup [.int a, .int b] => (a, b)
  | _ => (0, 0)
def vS (ds : List (Key × Dt)) (s : Str) : Int × Int := match valD ds (.inr s) with | some d => toSr d | none => (0, 0)
theorem KnownOk.get {ds : List (Key × Dt)} {ns : List Str} (h : KnownOk ds ns) {s : Str} (m : s ∈ ns) : valD ds (.inr s) = some (dS (some (vS ds s))) ∧ Rng (vS ds s) := by
  obtain ⟨p, q, r⟩ := h.all s m
  unfold vS
  rw [q]
  exact ⟨rfl, r⟩
theorem KnownOk.self {ds : List (Key × Dt)} {ns : List Str} (h : KnownOk ds ns) : Eqv 3 (.dct ds) (.dct ds) true := Eqv.self h.nd fun q hq => by
  obtain ⟨s, p, e, _, _⟩ := h.keys q hq
  rw [e]
  exact Eqv.S p
def opR (o : Str) (a b : Int × Int) : Sr := if o = "+" then plusF a b else if o = "-" then minusF a b else timesF a b
def reachF (ds : List (Key × Dt)) : Ex → Sr
  | .num i => some (i, i)
  | .nam s => some (vS ds s)
  | .op o l r => match reachF ds l, reachF ds r with
    | some a, some b => if o = "rest" then some (restF a b.1) else opR o a b
    | _, _ => none
theorem cut_rng {lo hi : Int} (h : lo ≤ hi) {p : Int × Int} (e : cutF lo hi = some p) : Rng p := by
  unfold cutF at e
  split at e
  · cases e
  · cases e
    show -1000000 ≤ max lo (-1000000) ∧ max lo (-1000000) ≤ min hi 1000000 ∧ min hi 1000000 ≤ 1000000
    omega
theorem lohi (a b : Int × Int) (ha : Rng a) (hb : Rng b) : loF a b ≤ hiF a b := by
  have := mul_in (a := a) (b := b) (Int.le_refl a.1) ha.2.1 (Int.le_refl b.1) hb.2.1
  omega
theorem rest_rng {a : Int × Int} {n : Int} (ha : Rng a) (hn : 0 < n) (hn2 : n ≤ 1000000) : Rng (restF a n) := by
  unfold restF
  split
  · rename_i h
    have k1 := Int.emod_nonneg a.1 (show n ≠ 0 by omega)
    have k2 := Int.emod_lt_of_pos a.2 hn
    refine ⟨by show -1000000 ≤ a.1 % n; omega, ?_, by show a.2 % n ≤ 1000000; omega⟩
    show a.1 % n ≤ a.2 % n
    rw [Int.emod_def, Int.emod_def, h]
    have := ha.2.1
    omega
  · show -1000000 ≤ (0 : Int) ∧ (0 : Int) ≤ n - 1 ∧ n - 1 ≤ 1000000
    omega
theorem opR_rng {o : Str} {a b p : Int × Int} (ha : Rng a) (hb : Rng b) (e : opR o a b = some p) : Rng p := by
  have h1 := ha.2.1
  have h2 := hb.2.1
  unfold opR at e
  split at e
  · exact cut_rng (by omega) e
  · split at e
    · exact cut_rng (by omega) e
    · exact cut_rng (lohi a b ha hb) e
theorem rest_num {ns : List Str} {o : Str} {l r : Ex} (h : (Ex.op o l r).ok ns) (e : o = "rest") : ∃ m, r = .num m ∧ 1 ≤ m ∧ m ≤ 1000000 := by
  have h2 := h.2.1
  rcases h.2.2 with ⟨_, m, rfl, hm⟩ | z | z | z
  · exact ⟨m, rfl, hm, h2.2⟩
  all_goals (rw [e] at z; exact absurd z (by decide))
theorem reach_rng {ds : List (Key × Dt)} {ns : List Str} (h : KnownOk ds ns) : ∀ {e : Ex}, e.ok ns → ∀ {p : Int × Int}, reachF ds e = some p → Rng p
  | .num j, ho, p, q => by
    cases q
    have ho : -1000000 ≤ j ∧ j ≤ 1000000 := ho
    exact ⟨ho.1, Int.le_refl _, ho.2⟩
  | .nam s, ho, p, q => by cases q; exact (h.get ho).2
  | .op o l r, ho, p, q => by
    unfold reachF at q
    cases k1 : reachF ds l with
    | none => rw [k1] at q; cases q
    | some a =>
      cases k2 : reachF ds r with
      | none => rw [k1, k2] at q; cases q
      | some b =>
        rw [k1, k2] at q
        have q : (if o = "rest" then some (restF a b.1) else opR o a b) = some p := q
        have ha := reach_rng h ho.1 k1
        have hb := reach_rng h ho.2.1 k2
        split at q
        · rename_i e
          obtain ⟨m, rfl, h1, h2⟩ := rest_num ho e
          cases k2
          cases q
          exact rest_rng ha h1 h2
        · exact opR_rng ha hb q
abbrev R_reach (n : Nat) (as : List Dt) (d : Dt) : Prop := ∃ (e : Ex) (ds : List (Key × Dt)) (ns : List Str), as = [e.dt, .dct ds] ∧ e.ok ns ∧ KnownOk ds ns ∧ e.deep ≤ n ∧ d = dS (reachF ds e)
theorem reach_0 {as : List Dt} {d : Dt} : ¬ R_reach 0 as d := fun ⟨e, _, _, _, _, _, h, _⟩ => by have := e.deep_pos; omega
theorem reach_op (ds : List (Key × Dt)) (o : Str) (l r : Ex) : reachF ds (.op o l r) = (match reachF ds l, reachF ds r with | some a, some b => if o = "rest" then some (restF a b.1) else opR o a b | _, _ => none) := rfl

/-! ### the worth lies within the reach -/
structure Within (hs ks : List (Key × Dt)) (ns : List Str) : Prop where
  all : ∀ s ∈ ns, (vS ks s).1 ≤ vI hs s ∧ vI hs s ≤ (vS ks s).2
theorem clip_has {s : Sr} {x y : Int} (h : clipF x = some y) (k : hasL s x = true) : ∃ p, s = some p ∧ p.1 ≤ y ∧ y ≤ p.2 := by
  unfold clipF at h
  split at h
  · rename_i q
    cases h
    unfold hasL at k
    rw [decide_eq_false (show ¬ x < -1000000 by omega), decide_eq_false (show ¬ x > 1000000 by omega)] at k
    cases s with
    | none => cases k
    | some p =>
      have k : (decide (p.1 ≤ x) && decide (x ≤ p.2)) = true := k
      rw [Bool.and_eq_true, decide_eq_true_iff, decide_eq_true_iff] at k
      exact ⟨p, rfl, k⟩
  · cases h
theorem worth_reach {hs ks : List (Key × Dt)} {ns : List Str} (h : Within hs ks ns) : ∀ {e : Ex}, e.ok ns → ∀ {x : Int}, worthF hs e = some x → ∃ p, reachF ks e = some p ∧ p.1 ≤ x ∧ x ≤ p.2
  | .num j, ho, x, q => by cases q; exact ⟨_, rfl, Int.le_refl _, Int.le_refl _⟩
  | .nam s, ho, x, q => by cases q; exact ⟨_, rfl, h.all s ho⟩
  | .op o l r, ho, x, q => by
    unfold worthF at q
    unfold reachF
    cases k1 : worthF hs l with
    | none => rw [k1] at q; cases q
    | some a =>
      cases k2 : worthF hs r with
      | none => rw [k1, k2] at q; cases q
      | some b =>
        rw [k1, k2] at q
        have q : opF o a b = some x := q
        obtain ⟨pa, ea, a1, a2⟩ := worth_reach h ho.1 k1
        obtain ⟨pb, eb, b1, b2⟩ := worth_reach h ho.2.1 k2
        rw [ea, eb]
        show ∃ p, (if o = "rest" then some (restF pa pb.1) else opR o pa pb) = some p ∧ _
        by_cases e : o = "rest"
        · obtain ⟨m, rfl, h1, h2⟩ := rest_num ho e
          cases k2
          cases eb
          rw [opF_rest e] at q
          cases q
          rw [if_pos e]
          have := rest_in (a := pa) (x := a) (n := b) h1 a1 a2
          rw [show a - a / b * b = a % b by rw [Int.emod_def, Int.mul_comm]] at this
          exact ⟨_, rfl, this⟩
        · rw [if_neg e]
          have q : clipF (plainF o a b) = some x := by rw [opF, if_neg e] at q; exact q
          refine clip_has q ?_
          unfold plainF opR
          split
          · exact has_plus a1 a2 b1 b2
          · split
            · exact has_minus a1 a2 b1 b2
            · exact has_times a1 a2 b1 b2

/-! ### what the laws make known -/
def knownF (x : Int) (ns : List Str) : Nat → List (Key × Dt)
  | 0 => []
  | k + 1 =>
    let ds1 := putD (knownF x ns k) (.inr (ns.getD k "")) (dS (some (strF (sqF (x + 7 * (k : Int)) 2) (sqF (x + 7 * (k : Int)) 3))))
    if sqF (x + 7 * (k : Int)) 2 / 8 % 5 = 0 then putD ds1 (.inr (ns.getD k "")) (dS (some (vS ds1 (ns.getD 0 "")))) else ds1
theorem KnownOk.nil : KnownOk [] [] := ⟨fun _ h => (List.not_mem_nil h).elim, List.nodup_nil, fun _ h => (List.not_mem_nil h).elim⟩
theorem putD_mem {ks : List (Key × Dt)} {k : Key} {d : Dt} {q : Key × Dt} (h : q ∈ putD ks k d) : q = (k, d) ∨ q ∈ ks := by
  unfold putD at h
  split at h
  · obtain ⟨p, hp, rfl⟩ := List.mem_map.mp h
    split
    · rename_i e; exact .inl (by rw [e])
    · exact .inr hp
  · rcases List.mem_append.mp h with h | h
    · exact .inr h
    · exact .inl (by simpa using h)
theorem KnownOk.put {ds : List (Key × Dt)} {ns : List Str} (h : KnownOk ds ns) (s : Str) {p : Int × Int} (hp : Rng p) : KnownOk (putD ds (.inr s) (dS (some p))) (ns ++ [s]) where
  all := fun x hx => by
    rw [valD_put]
    split
    · exact ⟨p, rfl, hp⟩
    · rename_i q
      rcases List.mem_append.mp hx with k | k
      · exact h.all x k
      · have : x = s := by simpa using k
        exact absurd (by rw [this]) q
  nd := putD_keys _ _ _ h.nd
  keys := fun q hq => by
    rcases putD_mem hq with e | e
    · exact ⟨s, p, e, hp, by simp⟩
    · obtain ⟨s', p', e1, e2, e3⟩ := h.keys q e
      exact ⟨s', p', e1, e2, List.mem_append_left _ e3⟩
theorem KnownOk.same {ds : List (Key × Dt)} {ns ms : List Str} (h : KnownOk ds ns) (e : ∀ s, s ∈ ns ↔ s ∈ ms) : KnownOk ds ms where
  all := fun s hs => h.all s ((e s).mpr hs)
  nd := h.nd
  keys := fun q hq => by
    obtain ⟨s, p, e1, e2, e3⟩ := h.keys q hq
    exact ⟨s, p, e1, e2, (e s).mp e3⟩
theorem take_snoc {ns : List Str} {k : Nat} (h : k < ns.length) : ns.take (k + 1) = ns.take k ++ [ns.getD k ""] := by
  rw [List.take_add_one, List.getElem?_eq_getElem h, List.getD_eq_getElem?_getD, List.getElem?_eq_getElem h]
  rfl
theorem knownF_1 (x : Int) {ns : List Str} {k : Nat} (h : KnownOk (knownF x ns k) (ns.take k)) (hk : k < ns.length) : KnownOk (putD (knownF x ns k) (.inr (ns.getD k "")) (dS (some (strF (sqF (x + 7 * (k : Int)) 2) (sqF (x + 7 * (k : Int)) 3))))) (ns.take (k + 1)) := by
  rw [take_snoc hk]
  exact h.put _ (strF_lt _ _)
theorem head_in {ns : List Str} {k : Nat} (hk : k < ns.length) : ns.getD 0 "" ∈ ns.take (k + 1) := by
  cases ns with
  | nil => exact absurd hk (Nat.not_lt_zero _)
  | cons s r => exact List.mem_cons_self
theorem knownF_ok (x : Int) {ns : List Str} : ∀ k, k ≤ ns.length → KnownOk (knownF x ns k) (ns.take k)
  | 0, _ => KnownOk.nil
  | k + 1, h => by
    have h1 := knownF_1 x (knownF_ok x k (by omega)) (show k < ns.length by omega)
    unfold knownF
    show KnownOk (if _ then _ else _) _
    split
    · refine (h1.put _ (h1.get (head_in (show k < ns.length by omega))).2).same fun s => ?_
      rw [List.mem_append]
      refine ⟨fun q => ?_, .inl⟩
      rcases q with q | q
      · exact q
      · have : s = ns.getD k "" := by simpa using q
        rw [this, take_snoc (show k < ns.length by omega)]
        simp
    · exact h1
theorem knownF_len (x : Int) (ns : List Str) : ∀ k, (knownF x ns k).length ≤ 2 * k
  | 0 => Nat.le_refl _
  | k + 1 => by
    have h := knownF_len x ns k
    unfold knownF
    show (if _ then _ else _ : List (Key × Dt)).length ≤ _
    split
    · refine Nat.le_trans (putD_len _ _ _) ?_
      have := putD_len (knownF x ns k) (.inr (ns.getD k "")) (dS (some (strF (sqF (x + 7 * (k : Int)) 2) (sqF (x + 7 * (k : Int)) 3))))
      omega
    · refine Nat.le_trans (putD_len _ _ _) ?_
      omega
theorem knownF_step (x : Int) (ns : List Str) (k : Nat) {ds1 : List (Key × Dt)} (h : ds1 = putD (knownF x ns k) (.inr (ns.getD k "")) (dS (some (strF (sqF (x + 7 * (k : Int)) 2) (sqF (x + 7 * (k : Int)) 3))))) : knownF x ns (k + 1) = if sqF (x + 7 * (k : Int)) 2 / 8 % 5 = 0 then putD ds1 (.inr (ns.getD k "")) (dS (some (vS ds1 (ns.getD 0 "")))) else ds1 := by
  subst h
  rfl
abbrev R_known (as : List Dt) (d : Dt) : Prop := ∃ (x : Int) (ns : List Str), as = [.lst [.int x], .lst (ns.map .str)] ∧ ns.length ≤ 1000 ∧ d = .dct (knownF x ns ns.length)

/-! ### what the laws let the names hold -/
def nextF (x : Int) : Int := (x * x + 48271 * x + 11) % 2147483647
def heldF (ks : List (Key × Dt)) (x : Int) : Nat → Int × List (Key × Dt)
  | 0 => (x, [])
  | m + 1 =>
    let p := heldF ks x m
    match ks[m]? with
    | some (k, d) => (nextF p.1, putD p.2 k (.int (oneF (toSr d) (nextF p.1))))
    | none => p
theorem heldF_step (ks : List (Key × Dt)) (x : Int) {m : Nat} {k : Key} {d : Dt} (h : ks[m]? = some (k, d)) : heldF ks x (m + 1) = (nextF (heldF ks x m).1, putD (heldF ks x m).2 k (.int (oneF (toSr d) (nextF (heldF ks x m).1)))) := by
  show (match ks[m]? with | some (k, d) => _ | none => _ : Int × List (Key × Dt)) = _
  rw [h]
theorem heldF_x (ks : List (Key × Dt)) {x : Int} (h : 0 ≤ x ∧ x < 2147483647) : ∀ m, 0 ≤ (heldF ks x m).1 ∧ (heldF ks x m).1 < 2147483647
  | 0 => h
  | m + 1 => by
    unfold heldF
    show 0 ≤ (match ks[m]? with | some (k, d) => _ | none => _ : Int × List (Key × Dt)).1 ∧ (match ks[m]? with | some (k, d) => _ | none => _ : Int × List (Key × Dt)).1 < _
    split
    · show 0 ≤ nextF _ ∧ nextF _ < _
      unfold nextF
      omega
    · exact heldF_x ks h m
def strK : Key → Str
  | .inr s => s
  | .inl _ => ""
structure HeldIn (hs ks : List (Key × Dt)) (ns : List Str) : Prop where
  ok : HeldOk hs ns
  win : ∀ s ∈ ns, (vS ks s).1 ≤ vI hs s ∧ vI hs s ≤ (vS ks s).2
  len : hs.length ≤ ks.length
  key : ∀ q ∈ hs, ∃ s i, q = (.inr s, .int i) ∧ s ∈ ns
theorem vI_put (ds : List (Key × Dt)) (s t : Str) (i : Int) : vI (putD ds (.inr s) (.int i)) t = if s = t then i else vI ds t := by
  unfold vI
  rw [valD_put]
  by_cases e : s = t
  · rw [if_pos e, if_pos (by rw [e])]
  · rw [if_neg e, if_neg (fun z => e (Sum.inr.inj z))]
theorem heldF_ok {ks : List (Key × Dt)} {ns : List Str} (h : KnownOk ks ns) (x : Int) : ∀ m, m ≤ ks.length → HeldOk (heldF ks x m).2 ((ks.take m).map fun q => strK q.1) ∧ (∀ s ∈ (ks.take m).map fun q => strK q.1, (vS ks s).1 ≤ vI (heldF ks x m).2 s ∧ vI (heldF ks x m).2 s ≤ (vS ks s).2) ∧ (heldF ks x m).2.length ≤ m ∧ ∀ q ∈ (heldF ks x m).2, ∃ s i, q = (.inr s, .int i) ∧ s ∈ (ks.take m).map fun q => strK q.1
  | 0, _ => ⟨HeldOk.nil, fun s h => (List.not_mem_nil h).elim, Nat.le_refl _, fun _ h => (List.not_mem_nil h).elim⟩
  | m + 1, hm => by
    obtain ⟨h1, h2, h3, h4⟩ := heldF_ok h x m (by omega)
    have hlt : m < ks.length := by omega
    obtain ⟨s, p, e, hp, hs⟩ := h.keys ks[m] (List.getElem_mem hlt)
    have hv : valD ks (.inr s) = some (dS (some p)) := val_mem ks h.nd _ _ (by rw [← e]; exact List.getElem_mem hlt)
    have hvs : vS ks s = p := by unfold vS; rw [hv]; rfl
    have et : (ks.take (m + 1)).map (fun q => strK q.1) = (ks.take m).map (fun q => strK q.1) ++ [s] := by
      rw [List.take_add_one, List.getElem?_eq_getElem hlt, List.map_append, e]
      rfl
    have eh : heldF ks x (m + 1) = (nextF (heldF ks x m).1, putD (heldF ks x m).2 (.inr s) (.int (oneF p (nextF (heldF ks x m).1)))) := by
      show (match ks[m]? with | some (k, d) => _ | none => _ : Int × List (Key × Dt)) = _
      rw [List.getElem?_eq_getElem hlt, e]
      rfl
    have hi := oneF_in hp.2.1 (nextF (heldF ks x m).1)
    have hr := hp
    obtain ⟨r1, r2, r3⟩ := hr
    rw [eh, et]
    refine ⟨h1.put s ⟨by omega, by omega⟩, fun t ht => ?_, ?_, fun q hq => ?_⟩
    · show _ ≤ vI (putD _ _ _) t ∧ vI (putD _ _ _) t ≤ _
      rw [vI_put]
      by_cases e2 : s = t
      · rw [if_pos e2, ← e2, hvs]; exact hi
      · rw [if_neg e2]
        rcases List.mem_append.mp ht with k | k
        · exact h2 t k
        · exact absurd (by simpa using k : t = s).symm e2
    · exact Nat.le_trans (putD_len _ _ _) (by omega)
    · rcases putD_mem hq with e2 | e2
      · exact ⟨s, _, e2, by simp⟩
      · obtain ⟨s', i, k1, k2⟩ := h4 q e2
        exact ⟨s', i, k1, List.mem_append_left _ k2⟩
theorem heldF_all {ks : List (Key × Dt)} {ns : List Str} (h : KnownOk ks ns) (x : Int) : HeldIn (heldF ks x ks.length).2 ks ns := by
  obtain ⟨h1, h2, h3, h4⟩ := heldF_ok h x ks.length (Nat.le_refl _)
  rw [List.take_length] at h1 h2 h4
  have e : ∀ s, s ∈ ns ↔ s ∈ ks.map fun q => strK q.1 := fun s => by
    constructor
    · intro hs
      obtain ⟨p, hv, _⟩ := h.all s hs
      unfold valD at hv
      obtain ⟨q, hq, _⟩ := Option.map_eq_some_iff.mp hv
      have m := List.mem_of_find?_eq_some hq
      have k := List.find?_some hq
      have k : q.1 = .inr s := of_decide_eq_true k
      exact List.mem_map.mpr ⟨q, m, by rw [k]; rfl⟩
    · intro hs
      obtain ⟨q, hq, e2⟩ := List.mem_map.mp hs
      obtain ⟨s', p, e3, _, k⟩ := h.keys q hq
      have e2 : strK q.1 = s := e2
      rw [e3] at e2
      have e2 : s' = s := e2
      rw [← e2]; exact k
  exact ⟨⟨fun s hs => h1.all s ((e s).mp hs), h1.nd, h1.whole⟩, fun s hs => h2 s ((e s).mp hs), h3, fun q hq => by
    obtain ⟨s, i, k1, k2⟩ := h4 q hq
    exact ⟨s, i, k1, (e s).mpr k2⟩⟩
theorem HeldIn.within {hs ks : List (Key × Dt)} {ns : List Str} (h : HeldIn hs ks ns) : Within hs ks ns := ⟨h.win⟩
abbrev R_held (as : List Dt) (d : Dt) : Prop := ∃ (ks : List (Key × Dt)) (ns : List Str) (x : Int), as = [.dct ks, .int x] ∧ KnownOk ks ns ∧ ks.length ≤ 1000 ∧ (0 ≤ x ∧ x < 2147483647) ∧ d = .dct (heldF ks x ks.length).2

/-! ### four products, sorted -/
theorem four_ends (a b : Int × Int) : ∃ w x y z, srtI [a.1 * b.1, a.2 * b.2, a.1 * b.2, a.2 * b.1] = [w, x, y, z] ∧ w = loF a b ∧ z = hiF a b := by
  have hp := srtI_perm [a.1 * b.1, a.2 * b.2, a.1 * b.2, a.2 * b.1]
  have hu := srtI_up [a.1 * b.1, a.2 * b.2, a.1 * b.2, a.2 * b.1]
  have hl := hp.length_eq
  generalize srtI [a.1 * b.1, a.2 * b.2, a.1 * b.2, a.2 * b.1] = l at *
  match l, hl with
  | [w, x, y, z], _ =>
    refine ⟨w, x, y, z, rfl, ?_, ?_⟩
    · have m1 : w ∈ [a.1 * b.1, a.2 * b.2, a.1 * b.2, a.2 * b.1] := hp.mem_iff.mp (by simp)
      have all : ∀ v ∈ [a.1 * b.1, a.2 * b.2, a.1 * b.2, a.2 * b.1], w ≤ v := fun v hv => by
        have := hp.mem_iff.mpr hv
        rcases List.mem_cons.mp this with e | e
        · rw [e]; exact Int.le_refl _
        · exact (List.pairwise_cons.mp hu).1 v e
      have a1 := all (a.1 * b.1) (by simp)
      have a2 := all (a.2 * b.2) (by simp)
      have a3 := all (a.1 * b.2) (by simp)
      have a4 := all (a.2 * b.1) (by simp)
      show w = min (min (min (a.1 * b.1) (a.1 * b.2)) (a.2 * b.1)) (a.2 * b.2)
      simp only [List.mem_cons, List.not_mem_nil, or_false] at m1
      omega
    · have m1 : z ∈ [a.1 * b.1, a.2 * b.2, a.1 * b.2, a.2 * b.1] := hp.mem_iff.mp (by simp)
      simp only [List.pairwise_cons, List.mem_cons, List.not_mem_nil, or_false] at hu
      have all : ∀ v ∈ [a.1 * b.1, a.2 * b.2, a.1 * b.2, a.2 * b.1], v ≤ z := fun v hv => by
        have := hp.mem_iff.mpr hv
        simp only [List.mem_cons, List.not_mem_nil, or_false] at this
        have h1 := hu.1 z (by simp)
        have h2 := hu.2.1 z (by simp)
        have h3 := hu.2.2.1 z (by simp)
        omega
      have a1 := all (a.1 * b.1) (by simp)
      have a2 := all (a.2 * b.2) (by simp)
      have a3 := all (a.1 * b.2) (by simp)
      have a4 := all (a.2 * b.1) (by simp)
      show z = max (max (max (a.1 * b.1) (a.1 * b.2)) (a.2 * b.1)) (a.2 * b.2)
      simp only [List.mem_cons, List.not_mem_nil, or_false] at m1
      omega
end BW

set_option Elab.async false
set_option linter.all false
set_option maxRecDepth 100000
set_option maxHeartbeats 4000000
/-! BM6: what conditions keep. -/
namespace BW
open PySem L2 PySem.Spec

/-! ### expressions and conditions as plain data -/
theorem ok_o {o : Str} (h : o = "rest" ∨ o = "+" ∨ o = "-" ∨ o = "*" ∨ o = "<" ∨ o = "<=" ∨ o = "=" ∨ o = "!=") : PyData.strOk o = true := by
  rcases h with rfl | rfl | rfl | rfl | rfl | rfl | rfl | rfl
  all_goals decide +kernel
theorem Ex.lay {ns : List Str} (hn : ∀ s ∈ ns, PyData.strOk s = true) : ∀ e : Ex, e.ok ns → e.dt.fl = true ∧ PyData.canLay0 (toP e.dt) = true ∧ (toP e.dt).depth + 1 ≤ e.deep ∧ PyData.eqv (toP e.dt) (toP e.dt) = true
  | .num i, _ => ⟨rfl, rfl, Nat.le_refl _, beq_self_eq_true i⟩
  | .nam s, ho => ⟨rfl, hn s ho, Nat.le_refl _, beq_self_eq_true s⟩
  | .op o l r, ho => by
    obtain ⟨a1, a2, a3, a4⟩ := l.lay hn ho.1
    obtain ⟨b1, b2, b3, b4⟩ := r.lay hn ho.2.1
    have h0 : PyData.strOk o = true := ok_o (by rcases ho.2.2 with ⟨h, _⟩ | h | h | h <;> simp [h])
    refine ⟨?_, ?_, ?_, ?_⟩
    · show (true && (l.dt.fl && (r.dt.fl && true))) = true
      rw [a1, b1]; rfl
    · show (PyData.strOk o && (PyData.canLay0 (toP l.dt) && (PyData.canLay0 (toP r.dt) && true))) = true
      rw [h0, a2, b2]; rfl
    · show max 0 (max (toP l.dt).depth (max (toP r.dt).depth 0)) + 1 + 1 ≤ max l.deep r.deep + 1
      omega
    · show ((o == o) && (PyData.eqv (toP l.dt) (toP l.dt) && (PyData.eqv (toP r.dt) (toP r.dt) && true))) = true
      rw [a4, b4, beq_self_eq_true]; rfl
theorem Cn.lay {ns : List Str} (hn : ∀ s ∈ ns, PyData.strOk s = true) (c : Cn) (ho : c.ok ns) (h1 : c.l.deep ≤ 6) (h2 : c.r.deep ≤ 6) : c.dt.fl = true ∧ SeqAt.shaped (toP c.dt) = true ∧ PyData.eqv (toP c.dt) (toP c.dt) = true := by
  obtain ⟨a1, a2, a3, a4⟩ := c.l.lay hn ho.1
  obtain ⟨b1, b2, b3, b4⟩ := c.r.lay hn ho.2.1
  have h0 : PyData.strOk c.o = true := ok_o (by rcases ho.2.2 with h | h | h | h <;> simp [h])
  refine ⟨?_, ?_, ?_⟩
  · show (true && (c.l.dt.fl && (c.r.dt.fl && true))) = true
    rw [a1, b1]; rfl
  · show ((PyData.strOk c.o && (PyData.canLay0 (toP c.l.dt) && (PyData.canLay0 (toP c.r.dt) && true))) && decide (max 0 (max (toP c.l.dt).depth (max (toP c.r.dt).depth 0)) + 1 ≤ 64)) = true
    rw [h0, a2, b2, decide_eq_true (by omega)]; rfl
  · show ((c.o == c.o) && (PyData.eqv (toP c.l.dt) (toP c.l.dt) && (PyData.eqv (toP c.r.dt) (toP c.r.dt) && true))) = true
    rw [a4, b4, beq_self_eq_true]; rfl
/-! ### names are words of small letters -/
theorem row_codes {ys : List Str} (h : ∀ s ∈ ys, ∃ x, s = (⟨#[x]⟩ : Str) ∧ 97 ≤ x ∧ x < 123) : ∃ l : List Nat, ys = l.map (fun x => (⟨#[x]⟩ : Str)) ∧ ∀ x ∈ l, 97 ≤ x ∧ x < 123 := by
  induction ys with
  | nil => exact ⟨[], rfl, fun _ h => (List.not_mem_nil h).elim⟩
  | cons s r ih =>
    obtain ⟨x, rfl, hx⟩ := h s List.mem_cons_self
    obtain ⟨l, rfl, hl⟩ := ih fun t ht => h t (List.mem_cons_of_mem _ ht)
    exact ⟨x :: l, rfl, fun y hy => (List.mem_cons.mp hy).elim (fun e => by rw [e]; exact hx) (hl y)⟩
theorem joinL_ones : ∀ l : List Nat, TL.joinL [] (l.map fun x => [x]) = l
  | [] => rfl
  | [x] => rfl
  | x :: y :: r => by
    show [x] ++ ([] ++ TL.joinL [] ((y :: r).map fun x => [x])) = _
    rw [joinL_ones (y :: r)]
    rfl
theorem nameF_codes (c : Int) (j : Nat) : ∃ l : List Nat, nameF c j = ⟨l.toArray⟩ ∧ l.length = (sizeF c j).toNat ∧ ∀ x ∈ l, 97 ≤ x ∧ x < 123 := by
  obtain ⟨l, e, h⟩ := row_codes (ys := rowF c j) fun s hs => by
    unfold rowF at hs
    have k : ∀ i : Int, ∃ x, letF (i % 26) = (⟨#[x]⟩ : Str) ∧ 97 ≤ x ∧ x < 123 := fun i => ⟨_, rfl, by omega, by omega⟩
    rcases List.mem_or_eq_of_mem_set hs with h | h
    · obtain ⟨p, _, rfl⟩ := List.mem_map.mp h; exact k _
    · rw [h]; exact k _
  refine ⟨l, ?_, ?_, h⟩
  · unfold nameF
    rw [e]
    have := SX.join_S [] (l.map fun x => [x])
    rw [List.map_map, joinL_ones] at this
    exact this
  · have := rowF_len c j
    rw [e, List.length_map] at this
    exact this
theorem namesF_ok (c : Int) (m : Nat) : ∀ s ∈ namesF c m, PyData.strOk s = true := fun s hs => by
  unfold namesF at hs
  obtain ⟨j, _, rfl⟩ := List.mem_map.mp hs
  obtain ⟨l, e, _, h⟩ := nameF_codes c j
  rw [e]
  show (l.toArray.all (· < 0x110000)) = true
  rw [Array.all_eq_true_iff_forall_mem]
  intro x hx
  have := h x (by simpa using hx)
  exact decide_eq_true (by omega)

/-! ### the contrary -/
def contraF (c : Cn) : Cn := if c.o = "<" then ⟨"<=", c.r, c.l⟩ else if c.o = "<=" then ⟨"<", c.r, c.l⟩ else if c.o = "=" then ⟨"!=", c.l, c.r⟩ else ⟨"=", c.l, c.r⟩
theorem contra_ok {c : Cn} {ns : List Str} (h : c.ok ns) : (contraF c).ok ns := by
  unfold contraF
  split
  · exact ⟨h.2.1, h.1, .inr (.inl rfl)⟩
  · split
    · exact ⟨h.2.1, h.1, .inl rfl⟩
    · split
      · exact ⟨h.1, h.2.1, .inr (.inr (.inr rfl))⟩
      · exact ⟨h.1, h.2.1, .inr (.inr (.inl rfl))⟩
theorem contra_deep {c : Cn} (h1 : c.l.deep ≤ 6) (h2 : c.r.deep ≤ 6) : (contraF c).l.deep ≤ 6 ∧ (contraF c).r.deep ≤ 6 := by
  unfold contraF
  split
  · exact ⟨h2, h1⟩
  · split
    · exact ⟨h2, h1⟩
    · split
      · exact ⟨h1, h2⟩
      · exact ⟨h1, h2⟩
abbrev R_contrary (as : List Dt) (d : Dt) : Prop := ∃ (c : Cn) (ns : List Str), as = [c.dt] ∧ c.ok ns ∧ d = (contraF c).dt
theorem contra_holds {hs : List (Key × Dt)} {c : Cn} {ns : List Str} (h : c.ok ns) {b : Bool} (q : holdsF hs c = some b) : holdsF hs (contraF c) = some (!b) := by
  obtain ⟨o, l, r⟩ := c
  cases k1 : worthF hs l with
  | none => rw [holdsF_none (.inl k1)] at q; cases q
  | some x =>
    cases k2 : worthF hs r with
    | none => rw [holdsF_none (.inr k2)] at q; cases q
    | some y =>
      rw [holdsF_some k1 k2] at q
      cases q
      have ho : o = "<" ∨ o = "<=" ∨ o = "=" ∨ o = "!=" := h.2.2
      rcases ho with rfl | rfl | rfl | rfl
      · show holdsF hs ⟨"<=", r, l⟩ = _
        rw [holdsF_some k2 k1]
        show some (decide (y ≤ x)) = some (!decide (x < y))
        by_cases z : x < y
        · rw [decide_eq_true z, decide_eq_false (by omega)]; rfl
        · rw [decide_eq_false z, decide_eq_true (by omega)]; rfl
      · show holdsF hs ⟨"<", r, l⟩ = _
        rw [holdsF_some k2 k1]
        show some (decide (y < x)) = some (!decide (x ≤ y))
        by_cases z : x ≤ y
        · rw [decide_eq_true z, decide_eq_false (by omega)]; rfl
        · rw [decide_eq_false z, decide_eq_true (by omega)]; rfl
      · show holdsF hs ⟨"!=", l, r⟩ = _
        rw [holdsF_some k1 k2]
        rfl
      · show holdsF hs ⟨"=", l, r⟩ = _
        rw [holdsF_some k1 k2]
        show some (decide (x = y)) = some (!(!decide (x = y)))
        rw [Bool.not_not]

/-! ### sides -/
def besideF (one other : Int × Int) : Sr :=
  if other.1 ≠ other.2 then some one else if one = other then none else
  if one.1 = other.1 then some (one.1 + 1, one.2) else if one.2 = other.1 then some (one.1, one.2 - 1) else some one
abbrev R_beside (as : List Dt) (d : Dt) : Prop := ∃ a b : Int × Int, as = [dS (some a), dS (some b)] ∧ d = dS (besideF a b)
def onesF (o : Str) (l r : Int × Int) : Sr :=
  if o = "<" then metF (some l) (some (-1000000, r.2 - 1)) else if o = "<=" then metF (some l) (some (-1000000, r.2)) else
  if o = "=" then metF (some l) (some r) else besideF l r
def othersF (o : Str) (l r : Int × Int) : Sr :=
  if o = "<" then metF (some r) (some (l.1 + 1, 1000000)) else if o = "<=" then metF (some r) (some (l.1, 1000000)) else
  if o = "=" then metF (some l) (some r) else besideF r l
abbrev R_sides (as : List Dt) (d : Dt) : Prop := ∃ (o : Str) (l r : Int × Int), as = [.str o, dS (some l), dS (some r)] ∧ d = .tup [dS (onesF o l r), dS (othersF o l r)]
theorem met_comm (a b : Int × Int) : metF (some a) (some b) = metF (some b) (some a) := by
  unfold metF
  show (if max a.1 b.1 > min a.2 b.2 then none else some (max a.1 b.1, min a.2 b.2)) = (if max b.1 a.1 > min b.2 a.2 then none else some (max b.1 a.1, min b.2 a.2))
  rw [Int.max_comm a.1, Int.min_comm a.2]
theorem met_rng {a b p : Int × Int} (ha : Rng a) (e : metF (some a) (some b) = some p) : Rng p := by
  have e : (if max a.1 b.1 > min a.2 b.2 then none else some (max a.1 b.1, min a.2 b.2)) = some p := e
  obtain ⟨h1, h2, h3⟩ := ha
  split at e
  · cases e
  · cases e
    show -1000000 ≤ max a.1 b.1 ∧ max a.1 b.1 ≤ min a.2 b.2 ∧ min a.2 b.2 ≤ 1000000
    omega
theorem met_in {a b : Int × Int} {x : Int} (h1 : a.1 ≤ x) (h2 : x ≤ a.2) (h3 : b.1 ≤ x) (h4 : x ≤ b.2) : ∃ p, metF (some a) (some b) = some p ∧ p.1 ≤ x ∧ x ≤ p.2 := by
  refine ⟨(max a.1 b.1, min a.2 b.2), ?_, by show max a.1 b.1 ≤ x; omega, by show x ≤ min a.2 b.2; omega⟩
  show (if max a.1 b.1 > min a.2 b.2 then none else some (max a.1 b.1, min a.2 b.2)) = _
  rw [if_neg (by omega)]
theorem beside_in {a b : Int × Int} {x y : Int} (h1 : a.1 ≤ x) (h2 : x ≤ a.2) (h3 : b.1 ≤ y) (h4 : y ≤ b.2) (h : x ≠ y) : ∃ p, besideF a b = some p ∧ p.1 ≤ x ∧ x ≤ p.2 := by
  unfold besideF
  split
  · exact ⟨_, rfl, h1, h2⟩
  · rename_i e
    have e : b.1 = b.2 := Decidable.not_not.mp e
    split
    · rename_i z
      subst z
      omega
    · split
      · exact ⟨_, rfl, by show a.1 + 1 ≤ x; omega, h2⟩
      · split
        · exact ⟨_, rfl, h1, by show x ≤ a.2 - 1; omega⟩
        · exact ⟨_, rfl, h1, h2⟩
theorem sides_in {o : Str} {l r : Int × Int} {x y : Int} (ho : o = "<" ∨ o = "<=" ∨ o = "=" ∨ o = "!=") (h1 : l.1 ≤ x) (h2 : x ≤ l.2) (h3 : r.1 ≤ y) (h4 : y ≤ r.2) (hx : -1000000 ≤ x ∧ x ≤ 1000000) (hy : -1000000 ≤ y ∧ y ≤ 1000000) (h : cmpF o x y = true) :
    (∃ p, onesF o l r = some p ∧ p.1 ≤ x ∧ x ≤ p.2) ∧ ∃ p, othersF o l r = some p ∧ p.1 ≤ y ∧ y ≤ p.2 := by
  rcases ho with rfl | rfl | rfl | rfl
  · have h : x < y := of_decide_eq_true h
    exact ⟨met_in h1 h2 hx.1 (by show x ≤ r.2 - 1; omega), met_in h3 h4 (by show l.1 + 1 ≤ y; omega) hy.2⟩
  · have h : x ≤ y := of_decide_eq_true h
    exact ⟨met_in h1 h2 hx.1 (by show x ≤ r.2; omega), met_in h3 h4 (by show l.1 ≤ y; omega) hy.2⟩
  · have h : x = y := of_decide_eq_true h
    subst h
    exact ⟨met_in h1 h2 h3 h4, met_in h1 h2 h3 h4⟩
  · have h : (!decide (x = y)) = true := h
    have h : x ≠ y := by simpa using h
    exact ⟨beside_in h1 h2 h3 h4 h, beside_in h3 h4 h1 h2 (Ne.symm h)⟩
theorem beside_rng {a b p : Int × Int} (ha : Rng a) (hb : Rng b) (e : besideF a b = some p) : Rng p := by
  obtain ⟨h1, h2, h3⟩ := ha
  unfold besideF at e
  split at e
  · cases e; exact ⟨h1, h2, h3⟩
  · rename_i z
    have z : b.1 = b.2 := Decidable.not_not.mp z
    split at e
    · cases e
    · rename_i ne
      split at e
      · rename_i q
        cases e
        have : a.2 ≠ b.2 := fun k => ne (Prod.ext q k)
        exact ⟨by show -1000000 ≤ a.1 + 1; omega, by show a.1 + 1 ≤ a.2; omega, h3⟩
      · split at e
        · cases e
          exact ⟨h1, by show a.1 ≤ a.2 - 1; omega, by show a.2 - 1 ≤ 1000000; omega⟩
        · cases e; exact ⟨h1, h2, h3⟩
theorem ones_rng {o : Str} {a b p : Int × Int} (ha : Rng a) (hb : Rng b) (e : onesF o a b = some p) : Rng p := by
  unfold onesF at e
  split at e
  · exact met_rng ha e
  · split at e
    · exact met_rng ha e
    · split at e
      · exact met_rng ha e
      · exact beside_rng ha hb e
theorem others_rng {o : Str} {a b p : Int × Int} (ha : Rng a) (hb : Rng b) (e : othersF o a b = some p) : Rng p := by
  unfold othersF at e
  split at e
  · exact met_rng hb e
  · split at e
    · exact met_rng hb e
    · split at e
      · exact met_rng ha e
      · exact beside_rng hb ha e

/-! ### what is kept -/
def nextK (ks : List (Key × Dt)) (e : Ex) (p : Int × Int) : Option (List (Key × Dt)) := match e with
  | .nam s => match metF (some (vS ks s)) (some p) with
    | none => none
    | some q => some (putD ks (.inr s) (dS (some q)))
  | _ => some ks
def keptF (ks : List (Key × Dt)) (c : Cn) : Option (List (Key × Dt)) :=
  match reachF ks c.l, reachF ks c.r with
  | some l, some r => match onesF c.o l r, othersF c.o l r with
    | some a, some b => match nextK ks c.l a with
      | some k1 => nextK k1 c.r b
      | none => none
    | _, _ => none
  | _, _ => none
theorem vS_put (ds : List (Key × Dt)) (s t : Str) (p : Int × Int) : vS (putD ds (.inr s) (dS (some p))) t = if s = t then p else vS ds t := by
  unfold vS
  rw [valD_put]
  by_cases e : s = t
  · rw [if_pos e, if_pos (by rw [e])]; rfl
  · rw [if_neg e, if_neg (fun z => e (Sum.inr.inj z))]
theorem KnownOk.put' {ds : List (Key × Dt)} {ns : List Str} (h : KnownOk ds ns) {s : Str} (hs : s ∈ ns) {p : Int × Int} (hp : Rng p) : KnownOk (putD ds (.inr s) (dS (some p))) ns :=
  (h.put s hp).same fun t => by
    rw [List.mem_append]
    refine ⟨fun q => ?_, .inl⟩
    rcases q with q | q
    · exact q
    · have : t = s := by simpa using q
      rw [this]; exact hs
theorem nextK_ok {ks k1 : List (Key × Dt)} {ns : List Str} {e : Ex} {p : Int × Int} (h : KnownOk ks ns) (ho : e.ok ns) (q : nextK ks e p = some k1) : KnownOk k1 ns ∧ k1.length ≤ ks.length + 1 := by
  cases e with
  | num i => cases q; exact ⟨h, Nat.le_succ _⟩
  | op o l r => cases q; exact ⟨h, Nat.le_succ _⟩
  | nam s =>
    unfold nextK at q
    have q : (match metF (some (vS ks s)) (some p) with | none => none | some q => some (putD ks (.inr s) (dS (some q)))) = some k1 := q
    cases k : metF (some (vS ks s)) (some p) with
    | none => rw [k] at q; cases q
    | some z =>
      rw [k] at q
      cases q
      exact ⟨h.put' ho (met_rng (h.get ho).2 k), putD_len _ _ _⟩
theorem keptF_ok {ks k2 : List (Key × Dt)} {ns : List Str} {c : Cn} (h : KnownOk ks ns) (ho : c.ok ns) (q : keptF ks c = some k2) : KnownOk k2 ns ∧ k2.length ≤ ks.length + 2 := by
  unfold keptF at q
  split at q
  · split at q
    · split at q
      · rename_i e
        have h1 := nextK_ok h ho.1 e
        have h2 := nextK_ok h1.1 ho.2.1 q
        exact ⟨h2.1, by omega⟩
      · cases q
    · cases q
  · cases q
theorem nextK_in {hs ks : List (Key × Dt)} {ns : List Str} {e : Ex} {p : Int × Int} {x : Int} (w : Within hs ks ns) (ho : e.ok ns) (hx : worthF hs e = some x) (h1 : p.1 ≤ x) (h2 : x ≤ p.2) : ∃ k1, nextK ks e p = some k1 ∧ Within hs k1 ns := by
  cases e with
  | num i => exact ⟨ks, rfl, w⟩
  | op o l r => exact ⟨ks, rfl, w⟩
  | nam s =>
    cases hx
    have h := w.all s ho
    obtain ⟨q, e, a, b⟩ := met_in h.1 h.2 h1 h2
    refine ⟨putD ks (.inr s) (dS (some q)), ?_, ⟨fun t ht => ?_⟩⟩
    · show (match metF (some (vS ks s)) (some p) with | none => none | some q => some (putD ks (.inr s) (dS (some q)))) = _
      rw [e]
    · rw [vS_put]
      split
      · rename_i z
        rw [← z]; exact ⟨a, b⟩
      · exact w.all t ht
theorem keptF_in {hs ks : List (Key × Dt)} {ns : List Str} {c : Cn} (hh : HeldOk hs ns) (w : Within hs ks ns) (ho : c.ok ns) (h : holdsF hs c = some true) : ∃ k2, keptF ks c = some k2 ∧ Within hs k2 ns := by
  obtain ⟨o, l, r⟩ := c
  cases k1 : worthF hs l with
  | none => rw [holdsF_none (.inl k1)] at h; cases h
  | some x =>
    cases k2 : worthF hs r with
    | none => rw [holdsF_none (.inr k2)] at h; cases h
    | some y =>
      rw [holdsF_some k1 k2] at h
      have h : cmpF o x y = true := Option.some.inj h
      obtain ⟨pl, e1, a1, a2⟩ := worth_reach w ho.1 k1
      obtain ⟨pr, e2, b1, b2⟩ := worth_reach w ho.2.1 k2
      obtain ⟨⟨p, ep, c1, c2⟩, ⟨q, eq, d1, d2⟩⟩ := sides_in ho.2.2 a1 a2 b1 b2 (worthF_lt hh ho.1 k1) (worthF_lt hh ho.2.1 k2) h
      obtain ⟨ka, f1, f2⟩ := nextK_in w ho.1 k1 c1 c2
      obtain ⟨kb, g1, g2⟩ := nextK_in f2 ho.2.1 k2 d1 d2
      refine ⟨kb, ?_, g2⟩
      unfold keptF
      have e1 : reachF ks l = some pl := e1
      have e2 : reachF ks r = some pr := e2
      have ep : onesF o pl pr = some p := ep
      have eq : othersF o pl pr = some q := eq
      show (match reachF ks l, reachF ks r with | some l', some r' => _ | _, _ => none) = _
      rw [e1, e2]
      show (match onesF o pl pr, othersF o pl pr with | some a, some b => _ | _, _ => none) = _
      rw [ep, eq]
      show (match nextK ks l p with | some k1 => nextK k1 r q | none => none) = _
      rw [f1]
      exact g1
abbrev R_kept (as : List Dt) (r : Option Ob) : Prop := ∃ (c : Cn) (ks : List (Key × Dt)) (ns : List Str), as = [c.dt, .dct ks] ∧ c.ok ns ∧ KnownOk ks ns ∧ ks.length ≤ 100 ∧ c.l.deep ≤ 6 ∧ c.r.deep ≤ 6 ∧ r = (keptF ks c).map Ob.dct
def dDO : Option (List (Key × Dt)) → Dt
  | none => .non
  | some ks => .dct ks
abbrev R_lkept (as : List Dt) (d : Dt) : Prop := ∃ (c : Cn) (ks : List (Key × Dt)) (ns : List Str), as = [c.dt, .dct ks] ∧ c.ok ns ∧ KnownOk ks ns ∧ ks.length ≤ 100 ∧ c.l.deep ≤ 6 ∧ c.r.deep ≤ 6 ∧ d = dDO (keptF ks c)
/-- _law_met -/
abbrev R_lmet (as : List Dt) (d : Dt) : Prop := ∃ (a : Int × Int) (lo hi : Int), as = [dS (some a), .int lo, .int hi] ∧ d = dS (metF (some a) (some (lo, hi)))
abbrev R_lside (as : List Dt) (d : Dt) : Prop := ∃ (o : Str) (a b : Int × Int) (f : Bool), as = [.str o, dS (some a), dS (some b), .bl f] ∧ (o = "<" ∨ o = "<=" ∨ o = "=" ∨ o = "!=") ∧ Rng a ∧ d = dS (if f then onesF o a b else othersF o b a)
theorem lside_ne {a b : Int × Int} (ha : a.1 ≤ a.2) (h1 : b.1 = b.2) (h2 : b.1 = a.1 ∨ b.1 = a.2) : metF (some a) (some (a.1 + (if decide (a.1 = b.1) then 1 else 0), a.2 - (if (!decide (a.1 = b.1) || decide (a.2 = a.1)) then 1 else 0))) = besideF a b := by
  unfold besideF
  rw [if_neg (show ¬ b.1 ≠ b.2 from fun z => z h1)]
  show (if max a.1 (a.1 + (if decide (a.1 = b.1) then 1 else 0)) > min a.2 (a.2 - (if (!decide (a.1 = b.1) || decide (a.2 = a.1)) then 1 else 0)) then none else some (max a.1 (a.1 + (if decide (a.1 = b.1) then 1 else 0)), min a.2 (a.2 - (if (!decide (a.1 = b.1) || decide (a.2 = a.1)) then 1 else 0)))) = _
  by_cases e : a.1 = b.1
  · rw [decide_eq_true e]
    by_cases e2 : a.2 = a.1
    · rw [decide_eq_true e2, if_pos (Prod.ext e (by omega) : a = b)]
      show (if max a.1 (a.1 + 1) > min a.2 (a.2 - 1) then none else _) = _
      rw [if_pos (by omega)]
    · rw [decide_eq_false e2, if_neg (fun z : a = b => e2 (by rw [z]; exact h1.symm)), if_pos e]
      show (if max a.1 (a.1 + 1) > min a.2 (a.2 - 0) then none else some (max a.1 (a.1 + 1), min a.2 (a.2 - 0))) = _
      rw [if_neg (by omega), show max a.1 (a.1 + 1) = a.1 + 1 by omega, show min a.2 (a.2 - 0) = a.2 by omega]
  · have e3 : a.2 = b.1 := by omega
    rw [decide_eq_false e, if_neg (fun z : a = b => e (by rw [z])), if_neg e, if_pos e3]
    show (if max a.1 (a.1 + 0) > min a.2 (a.2 - 1) then none else some (max a.1 (a.1 + 0), min a.2 (a.2 - 1))) = _
    rw [if_neg (by omega), show max a.1 (a.1 + 0) = a.1 by omega, show min a.2 (a.2 - 1) = a.2 - 1 by omega]
theorem beside_out {a b : Int × Int} (h : b.1 ≠ b.2 ∨ ¬ (b.1 = a.1 ∨ b.1 = a.2)) : besideF a b = some a := by
  unfold besideF
  by_cases e : b.1 ≠ b.2
  · rw [if_pos e]
  · rw [if_neg e]
    have h : ¬ (b.1 = a.1 ∨ b.1 = a.2) := h.resolve_left e
    rw [if_neg (fun z : a = b => h (.inl (by rw [z]))), if_neg (fun z => h (.inl z.symm)), if_neg (fun z => h (.inr z.symm))]
/-! ### the law's condition -/
def toldF (x : Nat → Int) (ns : List Str) (ks : List (Key × Dt)) : Cn :=
  let c := condF x ns
  if x 12 % 2 = 0 then
    let s := ns.getD (x 13 % (ns.length : Int)).toNat ""
    let n : Int := sel2 (x 13 / 12 % 2) (vS ks s).1 (vS ks s).2 + sel4 (x 13 / 24 % 4) 0 0 (-1) 1
    let e : Ex := if x 13 / 96 % 4 > 0 then .num (min 1000000 (max (-1000000) n)) else .nam s
    sel2 (x 13 / 384 % 2) ⟨c.o, .nam s, e⟩ ⟨c.o, e, .nam s⟩
  else c
theorem getD_in {ns : List Str} {i : Int} (h : 0 ≤ i ∧ i < ns.length) : ns.getD i.toNat "" ∈ ns := by
  have h3 : i.toNat < ns.length := by omega
  rw [List.getD_eq_getElem?_getD, List.getElem?_eq_getElem h3]
  exact List.getElem_mem h3
theorem toldF_ok (x : Nat → Int) {ns : List Str} (ks : List (Key × Dt)) (h : 0 < ns.length) : (toldF x ns ks).ok ns ∧ (toldF x ns ks).l.deep ≤ 6 ∧ (toldF x ns ks).r.deep ≤ 6 := by
  have hc := condF_ok x h
  unfold toldF
  dsimp only
  split
  · have hs := getD_in (ns := ns) (i := x 13 % (ns.length : Int)) ⟨Int.emod_nonneg _ (by omega), Int.emod_lt_of_pos _ (by omega)⟩
    generalize ns.getD (x 13 % (ns.length : Int)).toNat "" = s at *
    generalize sel2 (x 13 / 12 % 2) (vS ks s).1 (vS ks s).2 + sel4 (x 13 / 24 % 4) 0 0 (-1) 1 = n at *
    have he : (if x 13 / 96 % 4 > 0 then Ex.num (min 1000000 (max (-1000000) n)) else .nam s).ok ns ∧ (if x 13 / 96 % 4 > 0 then Ex.num (min 1000000 (max (-1000000) n)) else .nam s).deep ≤ 6 := by
      split
      · exact ⟨by show _ ∧ _; omega, by show 1 ≤ 6; omega⟩
      · exact ⟨hs, by show 1 ≤ 6; omega⟩
    generalize (if x 13 / 96 % 4 > 0 then Ex.num (min 1000000 (max (-1000000) n)) else .nam s) = e at *
    unfold sel2
    split
    · exact ⟨⟨hs, he.1, hc.1.2.2⟩, by show 1 ≤ 6; omega, he.2⟩
    · exact ⟨⟨he.1, hs, hc.1.2.2⟩, he.2, by show 1 ≤ 6; omega⟩
  · exact hc
abbrev R_told (as : List Dt) (d : Dt) : Prop := ∃ (zs : List Int) (ns : List Str) (ks : List (Key × Dt)), as = [.lst (zs.map .int), .lst (ns.map .str), .dct ks] ∧ 0 < ns.length ∧ KnownOk ks ns ∧ d = (toldF (fun k => sqF (cellF zs 2) (k + 2)) ns ks).dt
/-! ### what the law asks of the two -/
abbrev R_same (as : List Dt) (d : Dt) : Prop := ∃ (ks : List (Key × Dt)) (ns : List Str), as = [.dct ks, .dct ks] ∧ KnownOk ks ns ∧ d = .bl true
abbrev R_good (as : List Dt) (d : Dt) : Prop := ∃ (c : Cn) (ks hs : List (Key × Dt)) (ns : List Str), as = [c.dt, .dct ks, .dct hs] ∧ c.ok ns ∧ c.l.deep ≤ 6 ∧ c.r.deep ≤ 6 ∧ KnownOk ks ns ∧ ks.length ≤ 100 ∧ HeldIn hs ks ns ∧ d = .bl true
/-- None, True or False as a test -/
theorem et_truOB {K : PySem.W.Frag} {ow : Ow} {dn : Dn} {te : TE} {o : Option Bool} (h : Ed K ow dn te (dOB o)) : Et K ow dn (fun σ H Q => te σ H fun x H' => ∃ k, TruV K x H' k ∧ Q k H') (o == some true) := fun σ G H w Q q => h σ G H w _ fun v H2 e r => by
  cases o with
  | none => have := r.n; subst this; exact ⟨false, rfl, q H2 e⟩
  | some b => have := r.b; subst this; cases b <;> exact ⟨_, rfl, q H2 e⟩
/-- the turns of the loop over the two sides -/
def stepK (f : List (Key × Dt)) (e : Ex) (z : Sr) : Option (List (Key × Dt)) := match z with
  | some p => nextK f e p
  | none => none
def keptN (ks : List (Key × Dt)) (l r : Ex) (x y : Sr) : Nat → Option (List (Key × Dt))
  | 0 => some ks
  | 1 => stepK ks l x
  | _ => (stepK ks l x).bind fun f => stepK f r y
theorem keptN_2 {ks : List (Key × Dt)} {o : Str} {l r : Ex} {a b : Int × Int} (h1 : reachF ks l = some a) (h2 : reachF ks r = some b) : keptF ks ⟨o, l, r⟩ = keptN ks l r (onesF o a b) (othersF o a b) 2 := by
  unfold keptF
  show (match reachF ks l, reachF ks r with | some l', some r' => _ | _, _ => none) = _
  rw [h1, h2]
  show (match onesF o a b, othersF o a b with | some p, some q => _ | _, _ => none) = (stepK ks l (onesF o a b)).bind fun f => stepK f r (othersF o a b)
  cases onesF o a b with
  | none => rfl
  | some p =>
    show _ = (nextK ks l p).bind _
    cases othersF o a b with
    | none => cases nextK ks l p <;> rfl
    | some q => show (match nextK ks l p with | some k1 => nextK k1 r q | none => none) = _; cases nextK ks l p <;> rfl
theorem keptF_none {ks : List (Key × Dt)} {c : Cn} (h : reachF ks c.l = none ∨ reachF ks c.r = none) : keptF ks c = none := by
  unfold keptF
  rcases h with h | h
  · rw [h]
  · rw [h]; split <;> first | rfl | (rename_i z; cases z)
/-- a turn -/
theorem keptN_turn {ks : List (Key × Dt)} {o : Str} {l r : Ex} {x y : Sr} {ns : List Str} (hl : l.ok ns) (hr : r.ok ns) {m : Nat} (hm : m < 2) : ∃ e z, atI [Dt.str o, l.dt, r.dt] (1 + (m : Int)) = some e.dt ∧ atI [dS x, dS y] (m : Int) = some (dS z) ∧ ([(l.dt, dS x), (r.dt, dS y)] : List (Dt × Dt))[m]? = some (e.dt, dS z) ∧ e.ok ns ∧
    (∀ f, keptN ks l r x y m = some f → keptN ks l r x y (m + 1) = stepK f e z) ∧ (keptN ks l r x y (m + 1) = none → keptN ks l r x y 2 = none) := by
  obtain hm | hm : m = 0 ∨ m = 1 := by omega
  · subst hm
    refine ⟨l, x, rfl, rfl, rfl, hl, fun f h => ?_, fun h => ?_⟩
    · cases h; rfl
    · have h : stepK ks l x = none := h
      show (stepK ks l x).bind _ = none
      rw [h]; rfl
  · subst hm
    refine ⟨r, y, rfl, rfl, rfl, hr, fun f h => ?_, fun h => h⟩
    have h : stepK ks l x = some f := h
    show (stepK ks l x).bind _ = _
    rw [h]; rfl
theorem nextK_nam {ks : List (Key × Dt)} {s : Str} {p : Int × Int} : nextK ks (.nam s) p = (match metF (some (vS ks s)) (some p) with | none => none | some q => some (putD ks (.inr s) (dS (some q)))) := rfl
/-- its sides may be missing -/
theorem keptN_sides {ks f : List (Key × Dt)} {o : Str} {l r : Ex} {a b : Int × Int} {ns : List Str} (ha : Rng a) (hb : Rng b) : (∀ p, onesF o a b = some p → Rng p) ∧ ∀ p, othersF o a b = some p → Rng p := ⟨fun _ h => ones_rng ha hb h, fun _ h => others_rng ha hb h⟩
abbrev R_cond14 (as : List Dt) (d : Dt) : Prop := ∃ (x : Nat → Int) (ns : List Str), as = [.lst [.int (x 0), .int (x 1), .int (x 2), .int (x 3), .int (x 4), .int (x 5), .int (x 6), .int (x 7), .int (x 8), .int (x 9), .int (x 10), .int (x 11), .int (x 12), .int (x 13)], .lst (ns.map .str)] ∧ 0 < ns.length ∧ d = (condF x ns).dt
theorem toldF_out (x : Nat → Int) (ns : List Str) (ks : List (Key × Dt)) (h : ¬ x 12 % 2 = 0) : toldF x ns ks = condF x ns := by
  unfold toldF
  dsimp only
  rw [if_neg h]
theorem toldF_in (x : Nat → Int) (ns : List Str) (ks : List (Key × Dt)) (h : x 12 % 2 = 0) {s : Str} (hs : s = ns.getD (x 13 % (ns.length : Int)).toNat "") {n : Int} (hn : n = sel2 (x 13 / 12 % 2) (vS ks s).1 (vS ks s).2 + sel4 (x 13 / 24 % 4) 0 0 (-1) 1) {e : Ex}
    (he : e = if x 13 / 96 % 4 > 0 then .num (min 1000000 (max (-1000000) n)) else .nam s) : toldF x ns ks = sel2 (x 13 / 384 % 2) ⟨(condF x ns).o, .nam s, e⟩ ⟨(condF x ns).o, e, .nam s⟩ := by
  subst he hn hs
  unfold toldF
  dsimp only
  rw [if_pos h]
end BW

set_option Elab.async false
set_option linter.all false
set_option maxRecDepth 100000
set_option maxHeartbeats 4000000

namespace BW
open PySem L2 PySem.Spec PyProof.Rows
def topS (i : Nat) : Stmt := PySem.Challenge.pw_boundwatch_k09_what_conditions_keep.main.body.getD i (.Pass ⟨0, 0, 0, 0⟩)
abbrev BLT : List Str := ["bool", "dict", "int", "isinstance", "len", "max", "min", "range", "sorted", "str", "tuple", "zip"]
local macro_rules | `(tactic| walk_at "sd") => `(tactic| first | omega | (refine And.intro ?_ ?_ <;> omega) | (refine Or.inl (And.intro ?_ ?_) <;> omega) | (refine Or.inr (And.intro ?_ ?_) <;> omega) | rfl | decide | assumption | (simp; done) | (unfold sel2; split <;> omega))
local macro_rules | `(tactic| walk_at "le") => `(tactic| repeat (first | exact Le.nil | exact Le.refl _ | refine Le.same ?_ | refine Le.skip ?_))

section
variable {P : Program} {w : World} {K : PySem.W.Frag} {mg : Str → Option Value} {base : Heap}
abbrev s_cut : Stmt := topS 2
abbrev N_cut : List Str := ["low", "high"]
theorem sc_cut : FnScope N_cut ["low", "high"] (defScope s_cut) := ⟨rfl, rfl, rfl, by decide +kernel, rfl, by decide +kernel, by decide +kernel⟩
theorem ok_cut {f : Addr} {fd : FuncData} (F : Df K mg "cut" s_cut ["low", "high"] f fd) (B : Free mg BLT) (g_LIMIT : ∃ t, mg "LIMIT" = some (.int 1000000 t)) : Cl P w K mg base 1 "cut" ["low", "high"] (SpR K R_cut) := by
  refine F.cl (ok_R (k := 0) F.fn sc_cut (by rintro _ _ ⟨a, b, rfl, rfl⟩; rfl) (fun cdv A outer s H E hr => ⟨_, (pss_cons (ps_if0 ((pw_or (pt_cmpR op_gt (pv 0) (pe_globI (by rfl) g_LIMIT) (nomark _)) (pw_or1 (pt_cmpR op_lt (pv 1) (pe_un un_neg (pe_globI (by rfl) g_LIMIT)) (nomark _))))).pt (pss_one (ps_ret pe_non)))
    (pss_one (ps_ret (pe_tup (pa_cons (pe_callB (call_max2 rfl) (by rfl) (B "max" (by decide)) bt_max (pa_cons (pv 0) (pa_cons (pe_un un_neg (pe_globI (by rfl) g_LIMIT)) pa_nil))) (pa_cons (pe_callB (call_min2 rfl) (by rfl) (B "min" (by decide)) bt_min (pa_cons (pv 1) (pa_cons (pe_globI (by rfl) g_LIMIT) pa_nil))) pa_nil)))))), fun G vs ds d Q hR gh rp q => ?_⟩))
  obtain ⟨a, b, rfl, rfl⟩ := hR
  have w := w_start (K := K) (N := N_cut) (n := 0) (dn := [some (.int a), some (.int b)]) gh rp rfl rfl
  refine s_if0 w (et_or (et_test (ed_gt (ed_var rfl) ed_int)) fun hb => (et_test (ed_lt (ed_var rfl) (ed_neg ed_int)))) (fun hb H1 w1 => ?_) (fun hb H1 w1 => ?_)
  · have h : a > 1000000 ∨ b < -1000000 := by simpa using hb
    exact x_ret w1 (ed_is ed_non (by rw [cutF, if_pos h]; rfl)) q
  · have h : ¬ (a > 1000000 ∨ b < -1000000) := by simpa using hb
    exact x_ret w1 (ed_is (ed_tup (ea_cons (ed_max2 (ea_cons (ed_var rfl) (ea_cons (ed_neg ed_int) ea_nil))) (ea_cons (ed_min2 (ea_cons (ed_var rfl) (ea_cons ed_int ea_nil))) ea_nil))) (by rw [cutF, if_neg h]; rfl)) q
abbrev s_plus : Stmt := topS 3
abbrev N_plus : List Str := ["one", "other"]
theorem sc_plus : FnScope N_plus ["one", "other"] (defScope s_plus) := ⟨rfl, rfl, rfl, by decide +kernel, rfl, by decide +kernel, by decide +kernel⟩
theorem ok_plus {f : Addr} {fd : FuncData} (F : Df K mg "plus" s_plus ["one", "other"] f fd) (C_cut : Cl P w K mg base 1 "cut" ["low", "high"] (SpR K R_cut)) : Cl P w K mg base 2 "plus" ["one", "other"] (SpR K R_plus) := by
  refine F.cl (ok_R (k := 1) F.fn sc_plus (by rintro _ _ ⟨a, b, rfl, rfl⟩; rfl) (fun cdv A outer s H E hr => ⟨_, (pss_one (ps_ret (pe_cl C_cut hr (by decide) (by rfl) (pa_cons (pe_op op_add (pe_ix ix_tup (pv 0) pe_int (fun _ _ => rfl)) (pe_ix ix_tup (pv 1) pe_int (fun _ _ => rfl))) (pa_cons (pe_op op_add (pe_ix ix_tup (pv 0) pe_int (fun _ _ => rfl)) (pe_ix ix_tup (pv 1) pe_int (fun _ _ => rfl))) pa_nil))))), fun G vs ds d Q hR gh rp q => ?_⟩))
  obtain ⟨a, b, rfl, rfl⟩ := hR
  have w := w_start (K := K) (N := N_plus) (n := 0) (dn := [some (dS (some a)), some (dS (some b))]) gh rp rfl rfl
  exact x_ret w (ed_is (ed_call (ea_cons (ed_add (ed_ixT (ed_var rfl) ed_int rfl) (ed_ixT (ed_var rfl) ed_int rfl)) (ea_cons (ed_add (ed_ixT (ed_var rfl) ed_int rfl) (ed_ixT (ed_var rfl) ed_int rfl)) ea_nil)) ⟨_, _, rfl, rfl⟩) (by rfl)) q
abbrev s_minus : Stmt := topS 4
abbrev N_minus : List Str := ["one", "other"]
theorem sc_minus : FnScope N_minus ["one", "other"] (defScope s_minus) := ⟨rfl, rfl, rfl, by decide +kernel, rfl, by decide +kernel, by decide +kernel⟩
theorem ok_minus {f : Addr} {fd : FuncData} (F : Df K mg "minus" s_minus ["one", "other"] f fd) (C_cut : Cl P w K mg base 1 "cut" ["low", "high"] (SpR K R_cut)) : Cl P w K mg base 2 "minus" ["one", "other"] (SpR K R_minus) := by
  refine F.cl (ok_R (k := 1) F.fn sc_minus (by rintro _ _ ⟨a, b, rfl, rfl⟩; rfl) (fun cdv A outer s H E hr => ⟨_, (pss_one (ps_ret (pe_cl C_cut hr (by decide) (by rfl) (pa_cons (pe_op op_sub (pe_ix ix_tup (pv 0) pe_int (fun _ _ => rfl)) (pe_ix ix_tup (pv 1) pe_int (fun _ _ => rfl))) (pa_cons (pe_op op_sub (pe_ix ix_tup (pv 0) pe_int (fun _ _ => rfl)) (pe_ix ix_tup (pv 1) pe_int (fun _ _ => rfl))) pa_nil))))), fun G vs ds d Q hR gh rp q => ?_⟩))
  obtain ⟨a, b, rfl, rfl⟩ := hR
  have w := w_start (K := K) (N := N_minus) (n := 0) (dn := [some (dS (some a)), some (dS (some b))]) gh rp rfl rfl
  exact x_ret w (ed_is (ed_call (ea_cons (ed_sub (ed_ixT (ed_var rfl) ed_int rfl) (ed_ixT (ed_var rfl) ed_int rfl)) (ea_cons (ed_sub (ed_ixT (ed_var rfl) ed_int rfl) (ed_ixT (ed_var rfl) ed_int rfl)) ea_nil)) ⟨_, _, rfl, rfl⟩) (by rfl)) q
abbrev s_times : Stmt := topS 5
abbrev N_times : List Str := ["one", "other", "ends"]
theorem sc_times : FnScope N_times ["one", "other"] (defScope s_times) := ⟨rfl, rfl, rfl, by decide +kernel, rfl, by decide +kernel, by decide +kernel⟩
theorem ok_times {f : Addr} {fd : FuncData} (F : Df K mg "times" s_times ["one", "other"] f fd) (B : Free mg BLT) (C_cut : Cl P w K mg base 1 "cut" ["low", "high"] (SpR K R_cut)) : Cl P w K mg base 2 "times" ["one", "other"] (SpR K R_times) := by
  refine F.cl (ok_R (k := 1) F.fn sc_times (by rintro _ _ ⟨a, b, rfl, ha, hb, rfl⟩; rfl) (fun cdv A outer s H E hr => ⟨_, (pss_cons (ps_set (i := 2) sc_times.nd rfl (by first | exact .inl rfl | exact .inr rfl) (pe_lst (pa_cons (pe_op op_mul (pe_ix ix_tup (pv 0) pe_int (fun _ _ => rfl)) (pe_ix ix_tup (pv 1) pe_int (fun _ _ => rfl))) (pa_cons (pe_op op_mul (pe_ix ix_tup (pv 0) pe_int (fun _ _ => rfl)) (pe_ix ix_tup (pv 1) pe_int (fun _ _ => rfl))) (pa_cons (pe_op op_mul (pe_ix ix_tup (pv 0) pe_int (fun _ _ => rfl)) (pe_ix ix_tup (pv 1) pe_int (fun _ _ => rfl))) (pa_cons (pe_op op_mul (pe_ix ix_tup (pv 0) pe_int (fun _ _ => rfl)) (pe_ix ix_tup (pv 1) pe_int (fun _ _ => rfl))) pa_nil))))))
    (pss_one (ps_ret (pe_cl C_cut hr (by decide) (by rfl) (pa_cons (pe_callB (cr_min rfl) (by rfl) (B "min" (by decide)) bt_min (pa_cons (pv 2) pa_nil)) (pa_cons (pe_callB (cr_max rfl) (by rfl) (B "max" (by decide)) bt_max (pa_cons (pv 2) pa_nil)) pa_nil)))))), fun G vs ds d Q hR gh rp q => ?_⟩))
  obtain ⟨a, b, rfl, ha, hb, rfl⟩ := hR
  have w := w_start (K := K) (N := N_times) (n := 1) (dn := [some (dS (some a)), some (dS (some b)), none]) gh rp rfl rfl
  have ⟨ha1, ha2, ha3⟩ := ha
  have ⟨hb1, hb2, hb3⟩ := hb
  refine s_set w (ed_is (ed_lst (ea_cons (ed_mul (ed_ixT (ed_var rfl) ed_int rfl) (ed_ixT (ed_var rfl) ed_int rfl) (by walk_at "sd")) (ea_cons (ed_mul (ed_ixT (ed_var rfl) ed_int rfl) (ed_ixT (ed_var rfl) ed_int rfl) (by walk_at "sd")) (ea_cons (ed_mul (ed_ixT (ed_var rfl) ed_int rfl) (ed_ixT (ed_var rfl) ed_int rfl) (by walk_at "sd")) (ea_cons (ed_mul (ed_ixT (ed_var rfl) ed_int rfl) (ed_ixT (ed_var rfl) ed_int rfl) (by walk_at "sd")) ea_nil))))) (e := .lst (([a.1 * b.1, a.1 * b.2, a.2 * b.1, a.2 * b.2] : List Int).map .int)) (by rfl)) fun v1 H1 w1 => ?_
  exact x_ret w1 (ed_is (ed_call (ea_cons (ed_minL (ea_cons (ed_var rfl) ea_nil)) (ea_cons (ed_maxL (ea_cons (ed_var rfl) ea_nil)) ea_nil)) ⟨_, _, rfl, rfl⟩) (by rfl)) q
abbrev s_rest : Stmt := topS 6
abbrev N_rest : List Str := ["one", "by"]
theorem sc_rest : FnScope N_rest ["one", "by"] (defScope s_rest) := ⟨rfl, rfl, rfl, by decide +kernel, rfl, by decide +kernel, by decide +kernel⟩
theorem ok_rest {f : Addr} {fd : FuncData} (F : Df K mg "rest" s_rest ["one", "by"] f fd) : Cl P w K mg base 1 "rest" ["one", "by"] (SpR K R_rest) := by
  refine F.cl (ok_R (k := 0) F.fn sc_rest (by rintro _ _ ⟨a, n, rfl, h0, h1, rfl⟩; rfl) (fun cdv A outer s H E hr => ⟨_, (pss_cons (ps_if0 (pt_cmpR op_eq (pe_op op_fdiv (pe_ix ix_tup (pv 0) pe_int (fun _ _ => rfl)) (pv 1)) (pe_op op_fdiv (pe_ix ix_tup (pv 0) pe_int (fun _ _ => rfl)) (pv 1)) (nomark _)) (pss_one (ps_ret (pe_tup (pa_cons (pe_op op_mod (pe_ix ix_tup (pv 0) pe_int (fun _ _ => rfl)) (pv 1)) (pa_cons (pe_op op_mod (pe_ix ix_tup (pv 0) pe_int (fun _ _ => rfl)) (pv 1)) pa_nil))))))
    (pss_one (ps_ret (pe_tup (pa_cons pe_int (pa_cons (pe_op op_sub (pv 1) pe_int) pa_nil)))))), fun G vs ds d Q hR gh rp q => ?_⟩))
  obtain ⟨a, n, rfl, h0, h1, rfl⟩ := hR
  have w := w_start (K := K) (N := N_rest) (n := 0) (dn := [some (dS (some a)), some (.int n)]) gh rp rfl rfl
  refine s_if0 w (et_test (ed_eq (ed_div (ed_ixT (ed_var rfl) ed_int rfl) (ed_var rfl) (by walk_at "sd")) (ed_div (ed_ixT (ed_var rfl) ed_int rfl) (ed_var rfl) (by walk_at "sd")))) (fun hb H1 w1 => ?_) (fun hb H1 w1 => ?_)
  · exact x_ret w1 (ed_is (ed_tup (ea_cons (ed_mod (ed_ixT (ed_var rfl) ed_int rfl) (ed_var rfl) (by walk_at "sd")) (ea_cons (ed_mod (ed_ixT (ed_var rfl) ed_int rfl) (ed_var rfl) (by walk_at "sd")) ea_nil))) (by rw [restF, if_pos (of_decide_eq_true hb)]; rfl)) q
  · exact x_ret w1 (ed_is (ed_tup (ea_cons ed_int (ea_cons (ed_sub (ed_var rfl) ed_int) ea_nil))) (by rw [restF, if_neg (of_decide_eq_false hb)]; rfl)) q
abbrev s_met : Stmt := topS 7
abbrev N_met : List Str := ["one", "other", "low", "high"]
theorem sc_met : FnScope N_met ["one", "other"] (defScope s_met) := ⟨rfl, rfl, rfl, by decide +kernel, rfl, by decide +kernel, by decide +kernel⟩
theorem ok_met {f : Addr} {fd : FuncData} (F : Df K mg "met" s_met ["one", "other"] f fd) (B : Free mg BLT) : Cl P w K mg base 1 "met" ["one", "other"] (SpR K R_met) := by
  refine F.cl (ok_R (k := 0) F.fn sc_met (by rintro _ _ ⟨x, y, rfl, rfl⟩; rfl) (fun cdv A outer s H E hr => ⟨_, (pss_cons (ps_if0 ((pw_or (pt_cmpR op_isN (pv 0) pe_non (nomark _)) (pw_or1 (pt_cmpR op_isN (pv 1) pe_non (nomark _))))).pt (pss_one (ps_ret pe_non)))
    (pss_cons (ps_set (i := 2) sc_met.nd rfl (by first | exact .inl rfl | exact .inr rfl) (pe_callB (call_max2 rfl) (by rfl) (B "max" (by decide)) bt_max (pa_cons (pe_ix ix_tup (pv 0) pe_int (fun _ _ => rfl)) (pa_cons (pe_ix ix_tup (pv 1) pe_int (fun _ _ => rfl)) pa_nil))))
    (pss_cons (ps_set (i := 3) sc_met.nd rfl (by first | exact .inl rfl | exact .inr rfl) (pe_callB (call_min2 rfl) (by rfl) (B "min" (by decide)) bt_min (pa_cons (pe_ix ix_tup (pv 0) pe_int (fun _ _ => rfl)) (pa_cons (pe_ix ix_tup (pv 1) pe_int (fun _ _ => rfl)) pa_nil))))
    (pss_cons (ps_if0 (pt_cmpR op_gt (pv 2) (pv 3) (nomark _)) (pss_one (ps_ret pe_non)))
    (pss_one (ps_ret (pe_tup (pa_cons (pv 2) (pa_cons (pv 3) pa_nil))))))))), fun G vs ds d Q hR gh rp q => ?_⟩))
  obtain ⟨x, y, rfl, rfl⟩ := hR
  have w := w_start (K := K) (N := N_met) (n := 2) (dn := [some (dS x), some (dS y), none, none]) gh rp rfl rfl
  rcases x with _ | a
  · refine s_if0T w (et_or (et_test (ed_isN (ed_var rfl) ed_non)) fun hb => (et_test (ed_isN (ed_var rfl) ed_non))) (by first | rfl | (cases y <;> rfl)) fun H1 w1 => ?_
    exact x_ret w1 (ed_is ed_non (by cases y <;> rfl)) q
  rcases y with _ | b
  · refine s_if0T w (et_or (et_test (ed_isN (ed_var rfl) ed_non)) fun hb => (et_test (ed_isN (ed_var rfl) ed_non))) (by first | rfl | (cases y <;> rfl)) fun H1 w1 => ?_
    exact x_ret w1 (ed_is ed_non (by rfl)) q
  refine s_if0F w (et_or (et_test (ed_isN (ed_var rfl) ed_non)) fun hb => (et_test (ed_isN (ed_var rfl) ed_non))) (by first | rfl | (cases y <;> rfl)) fun H1 w1 => ?_
  refine s_set w1 (ed_max2 (ea_cons (ed_ixT (ed_var rfl) ed_int rfl) (ea_cons (ed_ixT (ed_var rfl) ed_int rfl) ea_nil))) fun v2 H2 w2 => ?_
  refine s_set w2 (ed_min2 (ea_cons (ed_ixT (ed_var rfl) ed_int rfl) (ea_cons (ed_ixT (ed_var rfl) ed_int rfl) ea_nil))) fun v3 H3 w3 => ?_
  refine s_if0 w3 (et_test (ed_gt (ed_var rfl) (ed_var rfl))) (fun hb H4 w4 => ?_) (fun hb H4 w4 => ?_)
  · exact x_ret w4 (ed_is ed_non (by rw [metF, if_pos (of_decide_eq_true hb)]; rfl)) q
  · exact x_ret w4 (ed_is (ed_tup (ea_cons (ed_var rfl) (ea_cons (ed_var rfl) ea_nil))) (by rw [metF, if_neg (of_decide_eq_false hb)]; rfl)) q
abbrev s_reach : Stmt := topS 9
abbrev N_reach : List Str := ["expression", "known", "left", "right"]
theorem sc_reach : FnScope N_reach ["expression", "known"] (defScope s_reach) := ⟨rfl, rfl, rfl, by decide +kernel, rfl, by decide +kernel, by decide +kernel⟩
theorem ok_reach {n : Nat} {f : Addr} {fd : FuncData} (F : Df K mg "reach" s_reach ["expression", "known"] f fd) (B : Free mg BLT) (C_reach : Cl P w K mg base (2 + n) "reach" ["expression", "known"] (SpR K (R_reach n))) (C_rest : Cl P w K mg base 1 "rest" ["one", "by"] (SpR K R_rest)) (C_plus : Cl P w K mg base 2 "plus" ["one", "other"] (SpR K R_plus)) (C_minus : Cl P w K mg base 2 "minus" ["one", "other"] (SpR K R_minus)) (C_times : Cl P w K mg base 2 "times" ["one", "other"] (SpR K R_times)) : Cl P w K mg base (2 + (n + 1)) "reach" ["expression", "known"] (SpR K (R_reach (n + 1))) := by
  refine F.cl (ok_R (k := (2 + n)) F.fn sc_reach (by rintro _ _ ⟨e, ds, ns, rfl, ho, hh, hd, rfl⟩; rfl) (fun cdv A outer s H E hr => ⟨_, (pss_cons (ps_if0 (pt_val (pe_callB call_isi (by rfl) (B "isinstance" (by decide)) bt_isinstance (pa_cons (pv 0) (pa_cons (pe_ty (by rfl) (B "str" (by decide)) bt_str) pa_nil)))) (pss_one (ps_ret (pe_dget (hu_of hr) (pv 1) (pv 0) (fun _ _ => rfl)))))
    (pss_cons (ps_if0 (pt_not (pt_val (pe_callB call_isi (by rfl) (B "isinstance" (by decide)) bt_isinstance (pa_cons (pv 0) (pa_cons (pe_ty (by rfl) (B "tuple" (by decide)) bt_tuple) pa_nil))))) (pss_one (ps_ret (pe_tup (pa_cons (pv 0) (pa_cons (pv 0) pa_nil))))))
    (pss_cons (ps_set (i := 2) sc_reach.nd rfl (by first | exact .inl rfl | exact .inr rfl) (pe_cl C_reach hr (by omega) (by rfl) (pa_cons (pe_ix ix_tup (pv 0) pe_int (fun _ _ => rfl)) (pa_cons (pv 1) pa_nil))))
    (pss_cons (ps_if0 (pt_cmpR op_isN (pv 2) pe_non (nomark _)) (pss_one (ps_ret pe_non)))
    (pss_cons (ps_if0 (pt_cmpR op_eq (pe_ix ix_tup (pv 0) pe_int (fun _ _ => rfl)) pe_str (nomark _)) (pss_one (ps_ret (pe_cl C_rest hr (by omega) (by rfl) (pa_cons (pv 2) (pa_cons (pe_ix ix_tup (pv 0) pe_int (fun _ _ => rfl)) pa_nil))))))
    (pss_cons (ps_set (i := 3) sc_reach.nd rfl (by first | exact .inl rfl | exact .inr rfl) (pe_cl C_reach hr (by omega) (by rfl) (pa_cons (pe_ix ix_tup (pv 0) pe_int (fun _ _ => rfl)) (pa_cons (pv 1) pa_nil))))
    (pss_cons (ps_if0 (pt_cmpR op_isN (pv 3) pe_non (nomark _)) (pss_one (ps_ret pe_non)))
    (pss_cons (ps_if0 (pt_cmpR op_eq (pe_ix ix_tup (pv 0) pe_int (fun _ _ => rfl)) pe_str (nomark _)) (pss_one (ps_ret (pe_cl C_plus hr (by omega) (by rfl) (pa_cons (pv 2) (pa_cons (pv 3) pa_nil))))))
    (pss_cons (ps_if0 (pt_cmpR op_eq (pe_ix ix_tup (pv 0) pe_int (fun _ _ => rfl)) pe_str (nomark _)) (pss_one (ps_ret (pe_cl C_minus hr (by omega) (by rfl) (pa_cons (pv 2) (pa_cons (pv 3) pa_nil))))))
    (pss_one (ps_ret (pe_cl C_times hr (by omega) (by rfl) (pa_cons (pv 2) (pa_cons (pv 3) pa_nil)))))))))))))), fun G vs ds d Q hR gh rp q => ?_⟩))
  obtain ⟨e, ds, ns, rfl, ho, hh, hd, rfl⟩ := hR
  have w := w_start (K := K) (N := N_reach) (n := 2) (dn := [some (e.dt), some (.dct ds), none, none]) gh rp rfl rfl
  rcases e with i | s | ⟨o, l, r⟩
  · refine s_if0F w (et_B (ed_isi (ea_cons (ed_var rfl) (ea_cons ed_ty ea_nil)) (by walk_at "sd"))) (by rfl) fun H1 w1 => ?_
    refine s_if0T w1 (et_not (et_B (ed_isi (ea_cons (ed_var rfl) (ea_cons ed_ty ea_nil)) (by walk_at "sd")))) (by rfl) fun H2 w2 => ?_
    exact x_ret w2 (ed_is (ed_tup (ea_cons (ed_var rfl) (ea_cons (ed_var rfl) ea_nil))) (by rfl)) q
  · refine s_if0T w (et_B (ed_isi (ea_cons (ed_var rfl) (ea_cons ed_ty ea_nil)) (by walk_at "sd"))) (by rfl) fun H1 w1 => ?_
    exact x_ret w1 (ed_is (ed_dget (k := .inr s) (ed_var rfl) (ed_var rfl) (hh.get ho).1) (by rfl)) q
  have hd' : max l.deep r.deep + 1 ≤ n + 1 := hd
  refine s_if0F w (et_B (ed_isi (ea_cons (ed_var rfl) (ea_cons ed_ty ea_nil)) (by walk_at "sd"))) (by rfl) fun H1 w1 => ?_
  refine s_if0F w1 (et_not (et_B (ed_isi (ea_cons (ed_var rfl) (ea_cons ed_ty ea_nil)) (by walk_at "sd")))) (by rfl) fun H2 w2 => ?_
  refine s_set w2 (ed_call (ea_cons (ed_ixT (ed_var rfl) ed_int rfl) (ea_cons (ed_var rfl) ea_nil)) ⟨_, _, _, rfl, by first | exact ho.1 | exact ho.2.1, hh, by omega, rfl⟩) fun v3 H3 w3 => ?_
  have ew := reach_op ds o l r
  have hla : ∀ a, reachF ds l = some a → Rng a := fun a k => reach_rng hh ho.1 k
  have hlb : ∀ b, reachF ds r = some b → Rng b := fun b k => reach_rng hh ho.2.1 k
  
  generalize reachF ds l = xa at *
  rcases xa with _ | a
  · refine s_if0T w3 (et_test (ed_isN (ed_var rfl) ed_non)) (by rfl) fun H5 w5 => ?_
    exact x_ret w5 (ed_is ed_non (congrArg dS ew.symm)) q
  refine s_if0F w3 (et_test (ed_isN (ed_var rfl) ed_non)) (by rfl) fun H5 w5 => ?_
  have ha := hla a rfl
  refine s_if0 w5 (et_test (ed_eqS (ed_ixT (ed_var rfl) ed_int rfl) ed_str)) (fun hc H6 w6 => ?_) (fun hc H6 w6 => ?_)
  · have he := of_decide_eq_true hc
    obtain ⟨m, rfl, hm1, hm2⟩ := rest_num ho he
    have ew : reachF ds (.op o l (.num m)) = (if o = "rest" then some (restF a m) else opR o a (m, m)) := ew
    rw [if_pos he] at ew
    exact x_ret w6 (ed_is (ed_call (ea_cons (ed_var rfl) (ea_cons (ed_ixT (ed_var rfl) ed_int rfl) ea_nil)) ⟨_, _, rfl, by omega, by omega, rfl⟩) (congrArg dS ew.symm)) q
  have hne := of_decide_eq_false hc
  refine s_set w6 (ed_call (ea_cons (ed_ixT (ed_var rfl) ed_int rfl) (ea_cons (ed_var rfl) ea_nil)) ⟨_, _, _, rfl, by first | exact ho.1 | exact ho.2.1, hh, by omega, rfl⟩) fun v7 H7 w7 => ?_
  generalize reachF ds r = xb at *
  rcases xb with _ | b
  · refine s_if0T w7 (et_test (ed_isN (ed_var rfl) ed_non)) (by rfl) fun H8 w8 => ?_
    exact x_ret w8 (ed_is ed_non (congrArg dS ew.symm)) q
  refine s_if0F w7 (et_test (ed_isN (ed_var rfl) ed_non)) (by rfl) fun H8 w8 => ?_
  have hb := hlb b rfl
  have ew : reachF ds (.op o l r) = (if o = "rest" then some (restF a b.1) else opR o a b) := ew
  rw [if_neg hne] at ew
  refine s_if0 w8 (et_test (ed_eqS (ed_ixT (ed_var rfl) ed_int rfl) ed_str)) (fun h1 H9 w9 => ?_) (fun h1 H9 w9 => ?_)
  · exact x_ret w9 (ed_is (ed_call (ea_cons (ed_var rfl) (ea_cons (ed_var rfl) ea_nil)) ⟨_, _, rfl, rfl⟩) (by rw [ew, opR, if_pos (of_decide_eq_true h1)])) q
  have h1 := of_decide_eq_false h1
  refine s_if0 w9 (et_test (ed_eqS (ed_ixT (ed_var rfl) ed_int rfl) ed_str)) (fun h2 H10 w10 => ?_) (fun h2 H10 w10 => ?_)
  · exact x_ret w10 (ed_is (ed_call (ea_cons (ed_var rfl) (ea_cons (ed_var rfl) ea_nil)) ⟨_, _, rfl, rfl⟩) (by rw [ew, opR, if_neg h1, if_pos (of_decide_eq_true h2)])) q
  exact x_ret w10 (ed_is (ed_call (ea_cons (ed_var rfl) (ea_cons (ed_var rfl) ea_nil)) ⟨_, _, rfl, by assumption, by assumption, rfl⟩) (by rw [ew, opR, if_neg h1, if_neg (of_decide_eq_false h2)])) q
theorem all_reach {f : Addr} {fd : FuncData} (F : Df K mg "reach" s_reach ["expression", "known"] f fd) (B : Free mg BLT) (C_rest : Cl P w K mg base 1 "rest" ["one", "by"] (SpR K R_rest)) (C_plus : Cl P w K mg base 2 "plus" ["one", "other"] (SpR K R_plus)) (C_minus : Cl P w K mg base 2 "minus" ["one", "other"] (SpR K R_minus)) (C_times : Cl P w K mg base 2 "times" ["one", "other"] (SpR K R_times)) : ∀ n : Nat, Cl P w K mg base (2 + n) "reach" ["expression", "known"] (SpR K (R_reach n))
  | 0 => F.cl ⟨fun vs H Q E ⟨_, _, _, _, _, hR, _⟩ => absurd hR reach_0, fun A outer s H args us vs Q E _ _ _ _ ⟨_, _, _, _, _, hR, _⟩ => absurd hR reach_0⟩
  | n + 1 => ok_reach F B (all_reach F B C_rest C_plus C_minus C_times n) C_rest C_plus C_minus C_times
abbrev s_contrary : Stmt := topS 10
abbrev N_contrary : List Str := ["condition"]
theorem sc_contrary : FnScope N_contrary ["condition"] (defScope s_contrary) := ⟨rfl, rfl, rfl, by decide +kernel, rfl, by decide +kernel, by decide +kernel⟩
theorem ok_contrary {f : Addr} {fd : FuncData} (F : Df K mg "contrary" s_contrary ["condition"] f fd) : Cl P w K mg base 1 "contrary" ["condition"] (SpR K R_contrary) := by
  refine F.cl (ok_R (k := 0) F.fn sc_contrary (by rintro _ _ ⟨c, ns, rfl, hc, rfl⟩; rfl) (fun cdv A outer s H E hr => ⟨_, (pss_cons (ps_if0 (pt_cmpR op_eq (pe_ix ix_tup (pv 0) pe_int (fun _ _ => rfl)) pe_str (nomark _)) (pss_one (ps_ret (pe_tup (pa_cons pe_str (pa_cons (pe_ix ix_tup (pv 0) pe_int (fun _ _ => rfl)) (pa_cons (pe_ix ix_tup (pv 0) pe_int (fun _ _ => rfl)) pa_nil)))))))
    (pss_cons (ps_if0 (pt_cmpR op_eq (pe_ix ix_tup (pv 0) pe_int (fun _ _ => rfl)) pe_str (nomark _)) (pss_one (ps_ret (pe_tup (pa_cons pe_str (pa_cons (pe_ix ix_tup (pv 0) pe_int (fun _ _ => rfl)) (pa_cons (pe_ix ix_tup (pv 0) pe_int (fun _ _ => rfl)) pa_nil)))))))
    (pss_one (ps_ret (pe_tup (pa_cons (pe_dget (hu_of hr) (pe_disp (pps_cons pe_str pe_str (pps_cons pe_str pe_str pps_nil)) (by rfl) (by rfl) (by simp) (by decide)) (pe_ix ix_tup (pv 0) pe_int (fun _ _ => rfl)) (fun _ _ => rfl)) (pa_cons (pe_ix ix_tup (pv 0) pe_int (fun _ _ => rfl)) (pa_cons (pe_ix ix_tup (pv 0) pe_int (fun _ _ => rfl)) pa_nil)))))))), fun G vs ds d Q hR gh rp q => ?_⟩))
  obtain ⟨c, ns, rfl, hc, rfl⟩ := hR
  have w := w_start (K := K) (N := N_contrary) (n := 0) (dn := [some (c.dt)]) gh rp rfl rfl
  obtain ⟨o, l, r⟩ := c
  have ho : o = "<" ∨ o = "<=" ∨ o = "=" ∨ o = "!=" := hc.2.2
  have ho1 : l.ok ns := hc.1
  have ho2 : r.ok ns := hc.2.1
  
  rcases ho with rfl | rfl | rfl | rfl
  · refine s_if0T w (et_test (ed_eqS (ed_ixT (ed_var rfl) ed_int rfl) ed_str)) (by rfl) fun H1 w1 => ?_
    exact x_ret w1 (ed_is (ed_tup (ea_cons ed_str (ea_cons (ed_ixT (ed_var rfl) ed_int rfl) (ea_cons (ed_ixT (ed_var rfl) ed_int rfl) ea_nil)))) (by rfl)) q
  · refine s_if0F w (et_test (ed_eqS (ed_ixT (ed_var rfl) ed_int rfl) ed_str)) (by rfl) fun H1 w1 => ?_
    refine s_if0T w1 (et_test (ed_eqS (ed_ixT (ed_var rfl) ed_int rfl) ed_str)) (by rfl) fun H2 w2 => ?_
    exact x_ret w2 (ed_is (ed_tup (ea_cons ed_str (ea_cons (ed_ixT (ed_var rfl) ed_int rfl) (ea_cons (ed_ixT (ed_var rfl) ed_int rfl) ea_nil)))) (by rfl)) q
  · refine s_if0F w (et_test (ed_eqS (ed_ixT (ed_var rfl) ed_int rfl) ed_str)) (by rfl) fun H1 w1 => ?_
    refine s_if0F w1 (et_test (ed_eqS (ed_ixT (ed_var rfl) ed_int rfl) ed_str)) (by rfl) fun H2 w2 => ?_
    exact x_ret w2 (ed_is (ed_tup (ea_cons (ed_dget (k := .inr _) (ed_disp (Ep.cons (k := .inr "=") ed_str ed_str rfl (Ep.cons (k := .inr "!=") ed_str ed_str rfl Ep.nil))) (ed_ixT (ed_var rfl) ed_int rfl) (by walk_at "sd")) (ea_cons (ed_ixT (ed_var rfl) ed_int rfl) (ea_cons (ed_ixT (ed_var rfl) ed_int rfl) ea_nil)))) (by rfl)) q
  · refine s_if0F w (et_test (ed_eqS (ed_ixT (ed_var rfl) ed_int rfl) ed_str)) (by rfl) fun H1 w1 => ?_
    refine s_if0F w1 (et_test (ed_eqS (ed_ixT (ed_var rfl) ed_int rfl) ed_str)) (by rfl) fun H2 w2 => ?_
    exact x_ret w2 (ed_is (ed_tup (ea_cons (ed_dget (k := .inr _) (ed_disp (Ep.cons (k := .inr "=") ed_str ed_str rfl (Ep.cons (k := .inr "!=") ed_str ed_str rfl Ep.nil))) (ed_ixT (ed_var rfl) ed_int rfl) (by walk_at "sd")) (ea_cons (ed_ixT (ed_var rfl) ed_int rfl) (ea_cons (ed_ixT (ed_var rfl) ed_int rfl) ea_nil)))) (by rfl)) q
abbrev s_beside : Stmt := topS 11
abbrev N_beside : List Str := ["one", "other"]
theorem sc_beside : FnScope N_beside ["one", "other"] (defScope s_beside) := ⟨rfl, rfl, rfl, by decide +kernel, rfl, by decide +kernel, by decide +kernel⟩
theorem ok_beside {f : Addr} {fd : FuncData} (F : Df K mg "beside" s_beside ["one", "other"] f fd) : Cl P w K mg base 1 "beside" ["one", "other"] (SpR K R_beside) := by
  refine F.cl (ok_R (k := 0) F.fn sc_beside (by rintro _ _ ⟨a, b, rfl, rfl⟩; rfl) (fun cdv A outer s H E hr => ⟨_, (pss_cons (ps_if0 (pt_cmpR op_ne (pe_ix ix_tup (pv 1) pe_int (fun _ _ => rfl)) (pe_ix ix_tup (pv 1) pe_int (fun _ _ => rfl)) (nomark _)) (pss_one (ps_ret (pv 0))))
    (pss_cons (ps_if0 (pt_cmpR (op_eqD hr.units) (pv 0) (pv 1) (nomark _)) (pss_one (ps_ret pe_non)))
    (pss_cons (ps_if0 (pt_cmpR op_eq (pe_ix ix_tup (pv 0) pe_int (fun _ _ => rfl)) (pe_ix ix_tup (pv 1) pe_int (fun _ _ => rfl)) (nomark _)) (pss_one (ps_ret (pe_tup (pa_cons (pe_op op_add (pe_ix ix_tup (pv 0) pe_int (fun _ _ => rfl)) pe_int) (pa_cons (pe_ix ix_tup (pv 0) pe_int (fun _ _ => rfl)) pa_nil))))))
    (pss_cons (ps_if0 (pt_cmpR op_eq (pe_ix ix_tup (pv 0) pe_int (fun _ _ => rfl)) (pe_ix ix_tup (pv 1) pe_int (fun _ _ => rfl)) (nomark _)) (pss_one (ps_ret (pe_tup (pa_cons (pe_ix ix_tup (pv 0) pe_int (fun _ _ => rfl)) (pa_cons (pe_op op_sub (pe_ix ix_tup (pv 0) pe_int (fun _ _ => rfl)) pe_int) pa_nil))))))
    (pss_one (ps_ret (pv 0))))))), fun G vs ds d Q hR gh rp q => ?_⟩))
  obtain ⟨a, b, rfl, rfl⟩ := hR
  have w := w_start (K := K) (N := N_beside) (n := 0) (dn := [some (dS (some a)), some (dS (some b))]) gh rp rfl rfl
  refine s_if0 w (et_test (ed_ne (ed_ixT (ed_var rfl) ed_int rfl) (ed_ixT (ed_var rfl) ed_int rfl))) (fun hb H1 w1 => ?_) (fun hb H1 w1 => ?_)
  · have h : b.1 ≠ b.2 := by simpa using hb
    exact x_ret w1 (ed_is (ed_var rfl) (by rw [besideF, if_pos h])) q
  have h : ¬ b.1 ≠ b.2 := by simpa using hb
  refine s_if0 w1 (et_is (et_test (ed_eqD (ed_var rfl) (ed_var rfl))) (eqv_S a b)) (fun hb H2 w2 => ?_) (fun hb H2 w2 => ?_)
  · have h2 : a = b := Option.some.inj (of_decide_eq_true hb)
    exact x_ret w2 (ed_is ed_non (by rw [besideF, if_neg h, if_pos h2]; rfl)) q
  have h2 : ¬ a = b := fun z => of_decide_eq_false hb (by rw [z])
  refine s_if0 w2 (et_test (ed_eq (ed_ixT (ed_var rfl) ed_int rfl) (ed_ixT (ed_var rfl) ed_int rfl))) (fun hb H3 w3 => ?_) (fun hb H3 w3 => ?_)
  · exact x_ret w3 (ed_is (ed_tup (ea_cons (ed_add (ed_ixT (ed_var rfl) ed_int rfl) ed_int) (ea_cons (ed_ixT (ed_var rfl) ed_int rfl) ea_nil))) (by rw [besideF, if_neg h, if_neg h2, if_pos (of_decide_eq_true hb)]; rfl)) q
  have h3 := of_decide_eq_false hb
  refine s_if0 w3 (et_test (ed_eq (ed_ixT (ed_var rfl) ed_int rfl) (ed_ixT (ed_var rfl) ed_int rfl))) (fun hb H4 w4 => ?_) (fun hb H4 w4 => ?_)
  · exact x_ret w4 (ed_is (ed_tup (ea_cons (ed_ixT (ed_var rfl) ed_int rfl) (ea_cons (ed_sub (ed_ixT (ed_var rfl) ed_int rfl) ed_int) ea_nil))) (by rw [besideF, if_neg h, if_neg h2, if_neg h3, if_pos (of_decide_eq_true hb)]; rfl)) q
  exact x_ret w4 (ed_is (ed_var rfl) (by rw [besideF, if_neg h, if_neg h2, if_neg h3, if_neg (of_decide_eq_false hb)])) q
abbrev s_sides : Stmt := topS 12
abbrev N_sides : List Str := ["sign", "left", "right"]
theorem sc_sides : FnScope N_sides ["sign", "left", "right"] (defScope s_sides) := ⟨rfl, rfl, rfl, by decide +kernel, rfl, by decide +kernel, by decide +kernel⟩
theorem ok_sides {f : Addr} {fd : FuncData} (F : Df K mg "sides" s_sides ["sign", "left", "right"] f fd) (C_met : Cl P w K mg base 1 "met" ["one", "other"] (SpR K R_met)) (C_beside : Cl P w K mg base 1 "beside" ["one", "other"] (SpR K R_beside)) (g_LIMIT : ∃ t, mg "LIMIT" = some (.int 1000000 t)) : Cl P w K mg base 2 "sides" ["sign", "left", "right"] (SpR K R_sides) := by
  refine F.cl (ok_R (k := 1) F.fn sc_sides (by rintro _ _ ⟨o, l, r, rfl, rfl⟩; rfl) (fun cdv A outer s H E hr => ⟨_, (pss_cons (ps_if0 (pt_cmpR op_eq (pv 0) pe_str (nomark _)) (pss_one (ps_ret (pe_tup (pa_cons (pe_cl C_met hr (by decide) (by rfl) (pa_cons (pv 1) (pa_cons (pe_tup (pa_cons (pe_un un_neg (pe_globI (by rfl) g_LIMIT)) (pa_cons (pe_op op_sub (pe_ix ix_tup (pv 2) pe_int (fun _ _ => rfl)) pe_int) pa_nil))) pa_nil))) (pa_cons (pe_cl C_met hr (by decide) (by rfl) (pa_cons (pv 2) (pa_cons (pe_tup (pa_cons (pe_op op_add (pe_ix ix_tup (pv 1) pe_int (fun _ _ => rfl)) pe_int) (pa_cons (pe_globI (by rfl) g_LIMIT) pa_nil))) pa_nil))) pa_nil))))))
    (pss_cons (ps_if0 (pt_cmpR op_eq (pv 0) pe_str (nomark _)) (pss_one (ps_ret (pe_tup (pa_cons (pe_cl C_met hr (by decide) (by rfl) (pa_cons (pv 1) (pa_cons (pe_tup (pa_cons (pe_un un_neg (pe_globI (by rfl) g_LIMIT)) (pa_cons (pe_ix ix_tup (pv 2) pe_int (fun _ _ => rfl)) pa_nil))) pa_nil))) (pa_cons (pe_cl C_met hr (by decide) (by rfl) (pa_cons (pv 2) (pa_cons (pe_tup (pa_cons (pe_ix ix_tup (pv 1) pe_int (fun _ _ => rfl)) (pa_cons (pe_globI (by rfl) g_LIMIT) pa_nil))) pa_nil))) pa_nil))))))
    (pss_cons (ps_if0 (pt_cmpR op_eq (pv 0) pe_str (nomark _)) (pss_one (ps_ret (pe_tup (pa_cons (pe_cl C_met hr (by decide) (by rfl) (pa_cons (pv 1) (pa_cons (pv 2) pa_nil))) (pa_cons (pe_cl C_met hr (by decide) (by rfl) (pa_cons (pv 1) (pa_cons (pv 2) pa_nil))) pa_nil))))))
    (pss_one (ps_ret (pe_tup (pa_cons (pe_cl C_beside hr (by decide) (by rfl) (pa_cons (pv 1) (pa_cons (pv 2) pa_nil))) (pa_cons (pe_cl C_beside hr (by decide) (by rfl) (pa_cons (pv 2) (pa_cons (pv 1) pa_nil))) pa_nil)))))))), fun G vs ds d Q hR gh rp q => ?_⟩))
  obtain ⟨o, l, r, rfl, rfl⟩ := hR
  have w := w_start (K := K) (N := N_sides) (n := 0) (dn := [some (.str o), some (dS (some l)), some (dS (some r))]) gh rp rfl rfl
  refine s_if0 w (et_test (ed_eqS (ed_var rfl) ed_str)) (fun hb H1 w1 => ?_) (fun hb H1 w1 => ?_)
  · have h := of_decide_eq_true hb
    exact x_ret w1 (ed_is (ed_tup (ea_cons (ed_call (ea_cons (ed_var rfl) (ea_cons (ed_tup (ea_cons (ed_neg ed_int) (ea_cons (ed_sub (ed_ixT (ed_var rfl) ed_int rfl) ed_int) ea_nil))) ea_nil)) ⟨some l, some (-1000000, r.2 - 1), rfl, rfl⟩) (ea_cons (ed_call (ea_cons (ed_var rfl) (ea_cons (ed_tup (ea_cons (ed_add (ed_ixT (ed_var rfl) ed_int rfl) ed_int) (ea_cons ed_int ea_nil))) ea_nil)) ⟨some r, some (l.1 + 1, 1000000), rfl, rfl⟩) ea_nil))) (by rw [onesF, othersF, if_pos h, if_pos h])) q
  have h1 := of_decide_eq_false hb
  refine s_if0 w1 (et_test (ed_eqS (ed_var rfl) ed_str)) (fun hb H2 w2 => ?_) (fun hb H2 w2 => ?_)
  · have h := of_decide_eq_true hb
    exact x_ret w2 (ed_is (ed_tup (ea_cons (ed_call (ea_cons (ed_var rfl) (ea_cons (ed_tup (ea_cons (ed_neg ed_int) (ea_cons (ed_ixT (ed_var rfl) ed_int rfl) ea_nil))) ea_nil)) ⟨some l, some (-1000000, r.2), rfl, rfl⟩) (ea_cons (ed_call (ea_cons (ed_var rfl) (ea_cons (ed_tup (ea_cons (ed_ixT (ed_var rfl) ed_int rfl) (ea_cons ed_int ea_nil))) ea_nil)) ⟨some r, some (l.1, 1000000), rfl, rfl⟩) ea_nil))) (by rw [onesF, othersF, if_neg h1, if_neg h1, if_pos h, if_pos h])) q
  have h2 := of_decide_eq_false hb
  refine s_if0 w2 (et_test (ed_eqS (ed_var rfl) ed_str)) (fun hb H3 w3 => ?_) (fun hb H3 w3 => ?_)
  · have h := of_decide_eq_true hb
    exact x_ret w3 (ed_is (ed_tup (ea_cons (ed_call (ea_cons (ed_var rfl) (ea_cons (ed_var rfl) ea_nil)) ⟨some l, some r, rfl, rfl⟩) (ea_cons (ed_call (ea_cons (ed_var rfl) (ea_cons (ed_var rfl) ea_nil)) ⟨some l, some r, rfl, rfl⟩) ea_nil))) (by rw [onesF, othersF, if_neg h1, if_neg h1, if_neg h2, if_neg h2, if_pos h, if_pos h])) q
  have h3 := of_decide_eq_false hb
  exact x_ret w3 (ed_is (ed_tup (ea_cons (ed_call (ea_cons (ed_var rfl) (ea_cons (ed_var rfl) ea_nil)) ⟨_, _, rfl, rfl⟩) (ea_cons (ed_call (ea_cons (ed_var rfl) (ea_cons (ed_var rfl) ea_nil)) ⟨_, _, rfl, rfl⟩) ea_nil))) (by rw [onesF, othersF, if_neg h1, if_neg h1, if_neg h2, if_neg h2, if_neg h3, if_neg h3])) q
abbrev s_kept : Stmt := topS 13
abbrev N_kept : List Str := ["condition", "known", "left", "right", "ones", "others", "found", "side", "stretch"]
theorem sc_kept : FnScope N_kept ["condition", "known"] (defScope s_kept) := ⟨rfl, rfl, rfl, by decide +kernel, rfl, by decide +kernel, by decide +kernel⟩
theorem ok_kept {f : Addr} {fd : FuncData} (F : Df K mg "kept" s_kept ["condition", "known"] f fd) (B : Free mg BLT) (C_reach : Cl P w K mg base 8 "reach" ["expression", "known"] (SpR K (R_reach 6))) (C_sides : Cl P w K mg base 2 "sides" ["sign", "left", "right"] (SpR K R_sides)) (C_met : Cl P w K mg base 1 "met" ["one", "other"] (SpR K R_met)) : Cl P w K mg base 9 "kept" ["condition", "known"] (SpO K R_kept) := by
  refine F.cl (ok_O (k := 8) F.fn sc_kept (by rintro _ _ ⟨c, ks, ns, rfl, hc, hk, hl, hd1, hd2, rfl⟩; rfl) (fun cdv A outer s H E hr => ⟨_, (pss_cons (ps_set (i := 2) sc_kept.nd rfl (by first | exact .inl rfl | exact .inr rfl) (pe_cl C_reach hr (by decide) (by rfl) (pa_cons (pe_ix ix_tup (pv 0) pe_int (fun _ _ => rfl)) (pa_cons (pv 1) pa_nil))))
    (pss_cons (ps_set (i := 3) sc_kept.nd rfl (by first | exact .inl rfl | exact .inr rfl) (pe_cl C_reach hr (by decide) (by rfl) (pa_cons (pe_ix ix_tup (pv 0) pe_int (fun _ _ => rfl)) (pa_cons (pv 1) pa_nil))))
    (pss_cons (ps_if0 ((pw_or (pt_cmpR op_isN (pv 2) pe_non (nomark _)) (pw_or1 (pt_cmpR op_isN (pv 3) pe_non (nomark _))))).pt (pss_one (ps_ret pe_non)))
    (pss_cons (ps_asg (pe_cl C_sides hr (by decide) (by rfl) (pa_cons (pe_ix ix_tup (pv 0) pe_int (fun _ _ => rfl)) (pa_cons (pv 2) (pa_cons (pv 3) pa_nil)))) (pg_tup rfl (pgs_cons (pg_name (i := 4) sc_kept.nd rfl (by first | exact Or.inl rfl | exact Or.inr rfl)) (pgs_cons (pg_name (i := 5) sc_kept.nd rfl (by first | exact Or.inl rfl | exact Or.inr rfl)) pgs_nil))))
    (pss_cons (ps_if0 ((pw_or (pt_cmpR op_isN (pv 4) pe_non (nomark _)) (pw_or1 (pt_cmpR op_isN (pv 5) pe_non (nomark _))))).pt (pss_one (ps_ret pe_non)))
    (pss_cons (ps_set (i := 6) sc_kept.nd rfl (by first | exact .inl rfl | exact .inr rfl) (pe_callTy call_dictC (by rfl) (B "dict" (by decide)) bt_dict (pa_cons (pv 1) pa_nil)))
    (pss_cons (ps_for PassesOwn.never rfl (pi_list (pe_lst (pa_cons (pe_tup (pa_cons (pe_ix ix_tup (pv 0) pe_int (fun _ _ => rfl)) (pa_cons (pv 4) pa_nil))) (pa_cons (pe_tup (pa_cons (pe_ix ix_tup (pv 0) pe_int (fun _ _ => rfl)) (pa_cons (pv 5) pa_nil))) pa_nil)))) (pg_tup rfl (pgs_cons (pg_name (i := 7) sc_kept.nd rfl (by first | exact Or.inl rfl | exact Or.inr rfl)) (pgs_cons (pg_name (i := 8) sc_kept.nd rfl (by first | exact Or.inl rfl | exact Or.inr rfl)) pgs_nil))) (pss_one (ps_if0 (pt_val (pe_callB call_isi (by rfl) (B "isinstance" (by decide)) bt_isinstance (pa_cons (pv 7) (pa_cons (pe_ty (by rfl) (B "str" (by decide)) bt_str) pa_nil)))) (pss_cons (ps_dput (hu_of hr) (pv 6) (pv 7) (pe_cl C_met hr (by decide) (by rfl) (pa_cons (pe_dget (hu_of hr) (pv 6) (pv 7) (fun _ _ => rfl)) (pa_cons (pv 8) pa_nil))) rfl)
    (pss_one (ps_if0 (pt_cmpR op_isN (pe_dget (hu_of hr) (pv 6) (pv 7) (fun _ _ => rfl)) pe_non (nomark _)) (pss_one (ps_ret pe_non))))))))
    (pss_one (ps_ret (pv 6)))))))))), fun G vs ds d Q hR gh rp q => ?_⟩))
  obtain ⟨c, ks, ns, rfl, hc, hk, hl, hd1, hd2, rfl⟩ := hR
  have w := w_start (K := K) (N := N_kept) (n := 7) (dn := [some (c.dt), some (.dct ks), none, none, none, none, none, none, none]) gh rp rfl rfl
  obtain ⟨o, l, r⟩ := c
  have ho : o = "<" ∨ o = "<=" ∨ o = "=" ∨ o = "!=" := hc.2.2
  have ho1 : l.ok ns := hc.1
  have ho2 : r.ok ns := hc.2.1
  
  have retn : ∀ {dn : Dn} {ow : Ow} {G' H' : Hp} {σ' : L2.St} {F : Fr} {D : Ends}, F.M = [] → F.H0 = H → D.rt = Q → Wd K F ow dn G' H' σ' → keptF ks ⟨o, l, r⟩ = none → tRet (tC .non) D σ' H' := fun hM hH hD w' h => x_ret w' ed_non fun v H' s rp => by
    have e := rp.n
    subst e
    rw [hD]
    rw [hM, hH] at s
    exact q.1 (by rw [h]; rfl) H' s
  
  have hd1 : l.deep ≤ 6 := hd1
  have hd2 : r.deep ≤ 6 := hd2
  refine s_set w (ed_call (ea_cons (ed_ixT (ed_var rfl) ed_int rfl) (ea_cons (ed_var rfl) ea_nil)) ⟨_, _, _, rfl, by assumption, hk, by assumption, rfl⟩) fun v0 H0 w0 => ?_
  refine s_set w0 (ed_call (ea_cons (ed_ixT (ed_var rfl) ed_int rfl) (ea_cons (ed_var rfl) ea_nil)) ⟨_, _, _, rfl, by assumption, hk, by assumption, rfl⟩) fun v1 H1 w1 => ?_
  have hla : ∀ a, reachF ks l = some a → Rng a := fun a k => reach_rng hk ho1 k
  have hlb : ∀ b, reachF ks r = some b → Rng b := fun b k => reach_rng hk ho2 k
  have hn1 : reachF ks l = none → keptF ks ⟨o, l, r⟩ = none := fun h => keptF_none (.inl h)
  have hn2 : reachF ks r = none → keptF ks ⟨o, l, r⟩ = none := fun h => keptF_none (.inr h)
  have hn3 : ∀ a b, reachF ks l = some a → reachF ks r = some b → keptF ks ⟨o, l, r⟩ = keptN ks l r (onesF o a b) (othersF o a b) 2 := fun a b h k => keptN_2 h k
  generalize reachF ks l = xa at *
  generalize reachF ks r = xb at *
  rcases xa with _ | a
  · refine s_if0T w1 (et_or (et_test (ed_isN (ed_var rfl) ed_non)) fun hb => (et_test (ed_isN (ed_var rfl) ed_non))) (by rfl) fun H5 w5 => ?_
    exact retn rfl rfl rfl w5 (hn1 rfl)
  rcases xb with _ | b
  · refine s_if0T w1 (et_or (et_test (ed_isN (ed_var rfl) ed_non)) fun hb => (et_test (ed_isN (ed_var rfl) ed_non))) (by rfl) fun H5 w5 => ?_
    exact retn rfl rfl rfl w5 (hn2 rfl)
  refine s_if0F w1 (et_or (et_test (ed_isN (ed_var rfl) ed_non)) fun hb => (et_test (ed_isN (ed_var rfl) ed_non))) (by rfl) fun H5 w5 => ?_
  have ha := hla a rfl
  have hb := hlb b rfl
  have hn3 := hn3 a b rfl rfl
  
  refine s_set2 w5 (ed_call (ea_cons (ed_ixT (ed_var rfl) ed_int rfl) (ea_cons (ed_var rfl) (ea_cons (ed_var rfl) ea_nil))) ⟨_, _, _, rfl, rfl⟩) fun v6 u6 H6 w6 => ?_
  generalize onesF o a b = x at *
  generalize othersF o a b = y at *
  rcases x with _ | x
  · refine s_if0T w6 (et_or (et_test (ed_isN (ed_var rfl) ed_non)) fun hb => (et_test (ed_isN (ed_var rfl) ed_non))) (by rfl) fun H7 w7 => ?_
    exact retn rfl rfl rfl w7 (hn3.trans rfl)
  rcases y with _ | y
  · refine s_if0T w6 (et_or (et_test (ed_isN (ed_var rfl) ed_non)) fun hb => (et_test (ed_isN (ed_var rfl) ed_non))) (by rfl) fun H7 w7 => ?_
    refine retn rfl rfl rfl w7 (hn3.trans ?_)
    show (stepK ks l (some x)).bind (fun f => stepK f r none) = none
    cases stepK ks l (some x) <;> rfl
  refine s_if0F w6 (et_or (et_test (ed_isN (ed_var rfl) ed_non)) fun hb => (et_test (ed_isN (ed_var rfl) ed_non))) (by rfl) fun H7 w7 => ?_
  refine s_own w7 (en_dictC (ea_cons (ed_var rfl) ea_nil)) fun p8 G8 H8 w8 => ?_
  refine s_forL2 (ds := [(l.dt, dS (some x)), (r.dt, dS (some y))]) w8 (ed_lst (ea_cons (ed_tup (ea_cons (ed_ixT (ed_var rfl) ed_int rfl) (ea_cons (ed_var rfl) ea_nil))) (ea_cons (ed_tup (ea_cons (ed_ixT (ed_var rfl) ed_int rfl) (ea_cons (ed_var rfl) ea_nil))) ea_nil))) (fun m ow dn => ∃ f, keptN ks l r (some x) (some y) m = some f ∧ ow = [(p8, .dct f)] ∧ KnownOk f ns ∧ f.length ≤ ks.length + m ∧ dn = [some (Cn.dt ⟨o, l, r⟩), some (.dct ks), some (dS (some a)), some (dS (some b)), some (dS (some x)), some (dS (some y)), some (.adr p8), none, none]) ⟨_, ⟨ks, rfl, rfl, hk, Nat.le_refl _, rfl⟩, Le.refl _⟩ (fun m d1 d2 ow' dn' σ' B G' H' v1 v2 he p w' => ?_) (fun ow' dn' σ' G' H' p w' => ?_)
  · obtain ⟨f, hf, rfl, hfk, hfl, rfl⟩ := p
    have hm : m < 2 := (List.getElem?_eq_some_iff.mp he).1
    obtain ⟨e, z, _, _, t3, t4, t5, t6⟩ := keptN_turn (ks := ks) (o := o) (x := some x) (y := some y) ho1 ho2 hm
    rw [t3] at he
    cases he
    obtain ⟨pp, rfl⟩ : ∃ pp, z = some pp := by
      obtain e2 | e2 : m = 0 ∨ m = 1 := by omega
      · subst e2
        have t3 : some (l.dt, dS (some x)) = some (e.dt, dS z) := t3
        have := congrArg Prod.snd (Option.some.inj t3)
        cases z with
        | none => cases this
        | some z => exact ⟨z, rfl⟩
      · subst e2
        have t3 : some (r.dt, dS (some y)) = some (e.dt, dS z) := t3
        have := congrArg Prod.snd (Option.some.inj t3)
        cases z with
        | none => cases this
        | some z => exact ⟨z, rfl⟩
    have t5 := t5 f hf
    have same : nextK f e pp = some f → At K ((fr0 G H).to B) (fun ow dn => ∃ f, keptN ks l r (some x) (some y) (m + 1) = some f ∧ ow = [(p8, .dct f)] ∧ KnownOk f ns ∧ f.length ≤ ks.length + (m + 1) ∧ dn = [some (Cn.dt ⟨o, l, r⟩), some (.dct ks), some (dS (some a)), some (dS (some b)), some (dS (some x)), some (dS (some y)), some (.adr p8), none, none]) ((σ'.set 7 (some v1)).set 8 (some v2)) H' := fun h => At.mk w' ⟨f, t5.trans h, rfl, hfk, by omega, rfl⟩ (by walk_at "le")
    rcases e with i | s | ⟨o2, l2, r2⟩
    · refine x_if0F w' (et_B (ed_isi (ea_cons (ed_var rfl) (ea_cons ed_ty ea_nil)) (by walk_at "sd"))) (by rfl) fun H9 w9 => At.mk w9 ⟨f, t5.trans rfl, rfl, hfk, by omega, rfl⟩ (by walk_at "le")
    · have hs : s ∈ ns := t4
      have GET := (hfk.get hs).1
      refine x_if0T w' (et_B (ed_isi (ea_cons (ed_var rfl) (ea_cons ed_ty ea_nil)) (by walk_at "sd"))) (by rfl) fun H9 w9 => ?_
      refine s_dput (j := 0) (k := .inr s) w9 rfl (ed_var rfl) (ed_var rfl) (ed_call (ea_cons (ed_oget (j := 0) (k := .inr s) rfl (ed_var rfl) (ed_var rfl) (by first | exact GET2 | exact GET)) (ea_cons (ed_var rfl) ea_nil)) ⟨some (vS f s), some pp, rfl, rfl⟩) (by omega) fun G10 H10 w10 => ?_
      have GET2 : valD (putD f (.inr s) (dS (metF (some (vS f s)) (some pp)))) (.inr s) = some (dS (metF (some (vS f s)) (some pp))) := by rw [valD_put, if_pos rfl]
      have t5 : keptN ks l r (some x) (some y) (m + 1) = (match metF (some (vS f s)) (some pp) with | none => none | some q => some (putD f (.inr s) (dS (some q)))) := t5
      have hmr : ∀ z, metF (some (vS f s)) (some pp) = some z → Rng z := fun z h => met_rng (hfk.get hs).2 h
      generalize metF (some (vS f s)) (some pp) = mm at *
      rcases mm with _ | mm
      · refine x_if0T w10 (et_test (ed_isN (ed_oget (j := 0) (k := .inr s) rfl (ed_var rfl) (ed_var rfl) (by first | exact GET2 | exact GET)) ed_non)) (by rfl) fun H11 w11 => ?_
        exact retn rfl rfl rfl w11 (hn3.trans (t6 t5))
      · refine x_if0F w10 (et_test (ed_isN (ed_oget (j := 0) (k := .inr s) rfl (ed_var rfl) (ed_var rfl) (by first | exact GET2 | exact GET)) ed_non)) (by rfl) fun H11 w11 => ?_
        exact At.mk w11 ⟨_, t5, rfl, hfk.put' hs (hmr mm rfl), Nat.le_trans (putD_len _ _ _) (by omega), rfl⟩ (by walk_at "le")
    · refine x_if0F w' (et_B (ed_isi (ea_cons (ed_var rfl) (ea_cons ed_ty ea_nil)) (by walk_at "sd"))) (by rfl) fun H9 w9 => At.mk w9 ⟨f, t5.trans rfl, rfl, hfk, by omega, rfl⟩ (by walk_at "le")
  · obtain ⟨f, hf, rfl, hfk, hfl, rfl⟩ := p
    exact x_retO (j := 0) w' rfl rfl rfl fun p G2 H2 s np g1 g2 ff oo => q.2 (.dct f) (by rw [hn3]; exact congrArg (Option.map Ob.dct) hf) p G2 H2 s np g1 g2 ff oo
abbrev s_law_cell_at : Stmt := topS 15
abbrev N_law_cell_at : List Str := ["_law_script", "_law_k"]
theorem sc_law_cell_at : FnScope N_law_cell_at ["_law_script", "_law_k"] (defScope s_law_cell_at) := ⟨rfl, rfl, rfl, by decide +kernel, rfl, by decide +kernel, by decide +kernel⟩
theorem ok_law_cell_at {f : Addr} {fd : FuncData} (F : Df K mg "_law_cell_at" s_law_cell_at ["_law_script", "_law_k"] f fd) (B : Free mg BLT) : Cl P w K mg base 1 "_law_cell_at" ["_law_script", "_law_k"] (SpR K R_cell) := by
  refine F.cl (ok_R (k := 0) F.fn sc_law_cell_at (by rintro _ _ ⟨ns, k, rfl, hk, rfl⟩; rfl) (fun cdv A outer s H E hr => ⟨_, (pss_cons (ps_if0 (pt_cmpR op_lt (pv 1) (pe_callB call_len_seq (by rfl) (B "len" (by decide)) bt_len (pa_cons (pv 0) pa_nil)) (nomark _)) (pss_one (ps_ret (pe_ix ix_list (pv 0) (pv 1) (fun _ _ => rfl)))))
    (pss_one (ps_ret pe_int))), fun G vs ds d Q hR gh rp q => ?_⟩))
  obtain ⟨ns, k, rfl, hk, rfl⟩ := hR
  have w := w_start (K := K) (N := N_law_cell_at) (n := 0) (dn := [some (.lst (ns.map .int)), some (.int k)]) gh rp rfl rfl
  refine s_if0 w (et_test (ed_lt (ed_var rfl) (ed_lenL (ea_cons (ed_var rfl) ea_nil)))) (fun hb H1 w1 => ?_) (fun hb H1 w1 => ?_)
  · have hl : k < ns.length := by have := of_decide_eq_true hb; simpa using this
    exact x_ret w1 (ed_is (ed_ixL (ed_var rfl) (ed_var rfl) (at_ints ⟨hk, hl⟩)) (by unfold cellF; rw [if_pos hl])) q
  · have hl : ¬ k < ns.length := by have := of_decide_eq_false hb; simpa using this
    exact x_ret w1 (ed_is ed_int (by unfold cellF; rw [if_neg hl])) q
abbrev s_law_stream : Stmt := topS 16
abbrev N_law_stream : List Str := ["_law_cell", "_law_many", "_law_found", "_law_number_here", "_law_k"]
theorem sc_law_stream : FnScope N_law_stream ["_law_cell", "_law_many"] (defScope s_law_stream) := ⟨rfl, rfl, rfl, by decide +kernel, rfl, by decide +kernel, by decide +kernel⟩
theorem ok_law_stream {f : Addr} {fd : FuncData} (F : Df K mg "_law_stream" s_law_stream ["_law_cell", "_law_many"] f fd) (B : Free mg BLT) : Cl P w K mg base 1 "_law_stream" ["_law_cell", "_law_many"] (SpR K R_stream) := by
  refine F.cl (ok_R (k := 0) F.fn sc_law_stream (by rintro _ _ ⟨c, m, rfl, hm, rfl⟩; rfl) (fun cdv A outer s H E hr => ⟨_, (pss_cons (ps_set (i := 2) sc_law_stream.nd rfl (by first | exact .inl rfl | exact .inr rfl) (pe_lst pa_nil))
    (pss_cons (ps_set (i := 3) sc_law_stream.nd rfl (by first | exact .inl rfl | exact .inr rfl) (pe_op op_add (pe_op op_mod (pv 0) pe_int) pe_int))
    (pss_cons (ps_for PassesOwn.never rfl (pi_range1 (by rfl) (B "range" (by decide)) (pa_cons (pe_op op_add (pv 1) pe_int) pa_nil)) (pg_name (i := 4) sc_law_stream.nd rfl (by first | exact Or.inl rfl | exact Or.inr rfl)) (pss_cons (ps_set (i := 3) sc_law_stream.nd rfl (by first | exact .inl rfl | exact .inr rfl) (pe_op op_mod (pe_op op_add (pe_op op_add (pe_op op_mul (pv 3) (pv 3)) (pe_op op_mul pe_int (pv 3))) (pv 4)) pe_int))
    (pss_one (ps_expr (pe_bm PySem.F.plainAttrs_list PySem.F.slot_list_append PySem.F.type_list_append mt_append (pv 2) (pa_cons (pv 3) pa_nil))))))
    (pss_one (ps_ret (pe_slice sl_list (pv 2) (po_some pe_int) po_none)))))), fun G vs ds d Q hR gh rp q => ?_⟩))
  obtain ⟨c, m, rfl, hm, rfl⟩ := hR
  have w := w_start (K := K) (N := N_law_stream) (n := 3) (dn := [some (.int c), some (.int m), none, none, none]) gh rp rfl rfl
  refine s_own w (en_lst ea_nil (by decide)) fun a G1 H1 w1 => ?_
  refine s_set w1 (ed_add (ed_mod (ed_var rfl) ed_int (by walk_at "sd")) ed_int) fun v2 H2 w2 => ?_
  refine s_forR1 w2 (ea_cons (ed_add (ed_var rfl) ed_int) ea_nil) (by omega) (fun i ow dn => ow = [(a, .lst ((runF c i).map .int))] ∧ dn = [some (.int c), some (.int m), some (.adr a), some (.int (sqF c i)), none]) ⟨_, ⟨rfl, rfl⟩, Le.refl _⟩ (fun i ow' dn' σ' G' H' v hi p w' => ?_) (fun ow' dn' σ' G' H' p w' => ?_)
  · obtain ⟨rfl, rfl⟩ := p
    have hs := sqF_lt c i
    refine s_set w' (ed_is (ed_mod (ed_add (ed_add (ed_mul (ed_var rfl) (ed_var rfl) (by walk_at "sd")) (ed_mul ed_int (ed_var rfl) (by walk_at "sd"))) (ed_var rfl)) ed_int (by walk_at "sd")) (by rfl)) fun v4 H4 w4 => ?_
    refine x_app (j := 0) w4 rfl (ed_var rfl) (ed_var rfl) (by rw [List.length_map, runF_len]; omega) fun G5 H5 w5 => ?_
    refine At.mk (dn' := [some (.int c), some (.int m), some (.adr a), some (.int (sqF c (i + 1))), none]) w5 ⟨?_, rfl⟩ (by walk_at "le")
    rw [runF_succ, List.map_append]
    rfl
  · obtain ⟨rfl, rfl⟩ := p
    have w3 := w'.frozen (j := 0) (i := 2) rfl rfl (by simp [fr0])
    refine x_ret w3 (ed_is (ed_slL (ed_var rfl) (eo_some ed_int) eo_none) ?_) q
    rw [show (m + 1).toNat = m.toNat + 1 by omega]
    exact congrArg Dt.lst (run_cut c m.toNat)
abbrev s_law_number : Stmt := topS 17
abbrev N_law_number : List Str := ["_law_x", "_law_far"]
theorem sc_law_number : FnScope N_law_number ["_law_x"] (defScope s_law_number) := ⟨rfl, rfl, rfl, by decide +kernel, rfl, by decide +kernel, by decide +kernel⟩
theorem ok_law_number {f : Addr} {fd : FuncData} (F : Df K mg "_law_number" s_law_number ["_law_x"] f fd) (B : Free mg BLT) : Cl P w K mg base 1 "_law_number" ["_law_x"] (SpR K R_number) := by
  refine F.cl (ok_R (k := 0) F.fn sc_law_number (by rintro _ _ ⟨x, rfl, rfl⟩; rfl) (fun cdv A outer s H E hr => ⟨_, (pss_cons (ps_if0 (pt_cmpR op_lt (pe_op op_mod (pv 0) pe_int) pe_int (nomark _)) (pss_one (ps_ret (pe_op op_sub (pe_op op_mod (pe_op op_fdiv (pv 0) pe_int) pe_int) pe_int))))
    (pss_cons (ps_set (i := 1) sc_law_number.nd rfl (by first | exact .inl rfl | exact .inr rfl) (pe_lst (pa_cons (pe_op op_sub (pe_op op_mod (pe_op op_fdiv (pv 0) pe_int) pe_int) pe_int) (pa_cons (pe_ix ix_list (pe_lst (pa_cons pe_int (pa_cons (pe_un un_neg pe_int) (pa_cons pe_int (pa_cons (pe_un un_neg pe_int) pa_nil))))) (pe_op op_mod (pe_op op_fdiv (pv 0) pe_int) pe_int) (fun _ _ => rfl)) (pa_cons (pe_op op_sub (pe_op op_mod (pe_op op_fdiv (pv 0) pe_int) pe_int) pe_int) pa_nil)))))
    (pss_one (ps_ret (pe_ix ix_list (pv 1) (pe_callB (call_min2 rfl) (by rfl) (B "min" (by decide)) bt_min (pa_cons pe_int (pa_cons (pe_op op_sub (pe_op op_mod (pv 0) pe_int) pe_int) pa_nil))) (fun _ _ => rfl)))))), fun G vs ds d Q hR gh rp q => ?_⟩))
  obtain ⟨x, rfl, rfl⟩ := hR
  have w := w_start (K := K) (N := N_law_number) (n := 1) (dn := [some (.int x), none]) gh rp rfl rfl
  refine s_if0 w (et_test (ed_lt (ed_mod (ed_var rfl) ed_int (by walk_at "sd")) ed_int)) (fun hb H1 w1 => ?_) (fun hb H1 w1 => ?_)
  · exact x_ret w1 (ed_is (ed_sub (ed_mod (ed_div (ed_var rfl) ed_int (by walk_at "sd")) ed_int (by walk_at "sd")) ed_int) (by rw [numF, if_pos (of_decide_eq_true hb)])) q
  · have hb' := of_decide_eq_false hb
    refine s_set w1 (ed_lst (ea_cons (ed_sub (ed_mod (ed_div (ed_var rfl) ed_int (by walk_at "sd")) ed_int (by walk_at "sd")) ed_int) (ea_cons (ed_ixL (ed_lst (ea_cons ed_int (ea_cons (ed_neg ed_int) (ea_cons ed_int (ea_cons (ed_neg ed_int) ea_nil))))) (ed_mod (ed_div (ed_var rfl) ed_int (by walk_at "sd")) ed_int (by walk_at "sd")) (at4i (by walk_at "sd"))) (ea_cons (ed_sub (ed_mod (ed_div (ed_var rfl) ed_int (by walk_at "sd")) ed_int (by walk_at "sd")) ed_int) ea_nil)))) fun v2 H2 w2 => ?_
    exact x_ret w2 (ed_is (ed_ixL (ed_var rfl) (ed_min2 (ea_cons ed_int (ea_cons (ed_sub (ed_mod (ed_var rfl) ed_int (by walk_at "sd")) ed_int) ea_nil))) (at3i (by omega))) (by rw [numF, if_neg hb'])) q
abbrev s_law_names : Stmt := topS 18
abbrev N_law_names : List Str := ["_law_cell", "_law_many", "_law_abc", "_law_step", "_law_found", "_law_j", "_law_size", "_law_row", "_law_p"]
theorem sc_law_names : FnScope N_law_names ["_law_cell", "_law_many"] (defScope s_law_names) := ⟨rfl, rfl, rfl, by decide +kernel, rfl, by decide +kernel, by decide +kernel⟩
theorem ok_law_names {f : Addr} {fd : FuncData} (F : Df K mg "_law_names" s_law_names ["_law_cell", "_law_many"] f fd) (B : Free mg BLT) : Cl P w K mg base 1 "_law_names" ["_law_cell", "_law_many"] (SpR K R_names) := by
  refine F.cl (ok_R (k := 0) F.fn sc_law_names (by rintro _ _ ⟨c, m, rfl, ⟨hc, hm0, hm⟩, rfl⟩; rfl) (fun cdv A outer s H E hr => ⟨_, (pss_cons (ps_set (i := 2) sc_law_names.nd rfl (by first | exact .inl rfl | exact .inr rfl) pe_str)
    (pss_cons (ps_set (i := 3) sc_law_names.nd rfl (by first | exact .inl rfl | exact .inr rfl) (pe_op op_add pe_int (pe_op op_mod (pe_op op_fdiv (pv 0) pe_int) pe_int)))
    (pss_cons (ps_set (i := 4) sc_law_names.nd rfl (by first | exact .inl rfl | exact .inr rfl) (pe_lst pa_nil))
    (pss_cons (ps_for PassesOwn.never rfl (pi_range1 (by rfl) (B "range" (by decide)) (pa_cons (pv 1) pa_nil)) (pg_name (i := 5) sc_law_names.nd rfl (by first | exact Or.inl rfl | exact Or.inr rfl)) (pss_cons (ps_set (i := 6) sc_law_names.nd rfl (by first | exact .inl rfl | exact .inr rfl) (pe_op op_add pe_int (pe_op op_mod (pe_op op_add (pe_op op_fdiv (pv 0) pe_int) (pe_op op_mul (pv 5) (pe_op op_mod (pv 0) pe_int))) pe_int)))
    (pss_cons (ps_setLc (i := 7) (own := [("_law_p", 8)]) rfl sc_law_names.nd rfl rfl (sw_true rfl rfl rfl (by decide +kernel)) (pi_range1 (by rfl) (B "range" (by decide)) (pa_cons (pv 6) pa_nil)) (blkOk_by (own := [("_law_p", 8)]) (N := N_law_names) (sc := defScope s_law_names) (by decide +kernel)) (fun _ _ _ _ _ => (pg_name (i := 8) sc_law_names.nd rfl (by first | exact Or.inl rfl | exact Or.inr rfl))) (fun _ _ _ _ _ => pts_nil) (fun _ _ _ _ _ => (pe_ix ix_str (pv 2) (pe_op op_mod (pe_op op_add (pe_op op_fdiv (pv 0) pe_int) (pe_op op_mul (pv 8) (pv 3))) pe_int) (fun _ _ => rfl))))
    (pss_cons (ps_asg (pe_ix ix_str (pv 2) (pe_op op_mod (pe_op op_add (pe_op op_fdiv (pv 0) pe_int) (pe_op op_mul pe_int (pv 5))) pe_int) (fun _ _ => rfl)) (pg_sub (pv 7) (pe_op op_mod (pe_op op_fdiv (pv 0) pe_int) (pv 6)) set_list))
    (pss_one (ps_expr (pe_bm PySem.F.plainAttrs_list PySem.F.slot_list_append PySem.F.type_list_append mt_append (pv 4) (pa_cons (pe_join pe_str (pv 7)) pa_nil))))))))
    (pss_one (ps_ret (pv 4))))))), fun G vs ds d Q hR gh rp q => ?_⟩))
  obtain ⟨c, m, rfl, ⟨hc, hm0, hm⟩, rfl⟩ := hR
  have w := w_start (K := K) (N := N_law_names) (n := 7) (dn := [some (.int c), some (.int m), none, none, none, none, none, none, none]) gh rp rfl rfl
  refine s_set w ed_str fun v0 H0 w0 => ?_
  refine s_set w0 (ed_add ed_int (ed_mod (ed_div (ed_var rfl) ed_int (by walk_at "sd")) ed_int (by walk_at "sd"))) fun v1 H1 w1 => ?_
  refine s_own w1 (en_lst ea_nil (by decide)) fun a G2 H2 w2 => ?_
  refine s_forR1 w2 (ea_cons (ed_var rfl) ea_nil) (by omega) (fun i ow dn => ow = [(a, .lst ((namesF c i).map .str))] ∧ dn = [some (.int c), some (.int m), some (.str "abcdefghijklmnopqrstuvwxyz"), some (.int (1 + c / 3 % 25)), some (.adr a), none, none, none, none]) ⟨_, ⟨rfl, rfl⟩, Le.refl _⟩ (fun i ow' dn' σ' G' H' v hi p w' => ?_) (fun ow' dn' σ' G' H' p w' => ?_)
  · obtain ⟨rfl, rfl⟩ := p
    have hs := sizeF_lt c i
    refine s_set w' (ed_is (ed_add ed_int (ed_mod (ed_add (ed_div (ed_var rfl) ed_int (by walk_at "sd")) (ed_mul (ed_var rfl) (ed_mod (ed_var rfl) ed_int (by walk_at "sd")) (by walk_at "sd"))) ed_int (by walk_at "sd"))) (e := .int (sizeF c i)) (by rfl)) fun v4 H4 w4 => ?_
    refine s_own w4 (en_is (en_lcR (fun _ => true) _ (ea_cons (ed_var rfl) ea_nil) (by walk_at "sd") (fun m hm => et_yes) (fun m hm hb => (ed_ixS (ed_var rfl) (ed_mod (ed_add (ed_div (ed_var rfl) ed_int (by walk_at "sd")) (ed_mul (ed_var rfl) (ed_var rfl) (by walk_at "sd"))) ed_int (by walk_at "sd")) (by decide +kernel) (abc_at' ⟨Int.emod_nonneg _ (by decide), Int.emod_lt_of_pos _ (by decide)⟩)))) (ob' := .lst (((List.range (sizeF c i).toNat).map fun p : Nat => letF ((c / 56 + (p : Int) * (1 + c / 3 % 25)) % 26)).map .str)) (ob_all.trans (by rw [List.map_map]; rfl))) fun b G5 H5 w5 => ?_
    have hmod : 0 ≤ c / 1456 % sizeF c i ∧ c / 1456 % sizeF c i < sizeF c i := ⟨Int.emod_nonneg _ (by omega), Int.emod_lt_of_pos _ (by omega)⟩
    refine s_put (j := 1) w5 rfl (ed_var rfl) (ed_mod (ed_div (ed_var rfl) ed_int (by walk_at "sd")) (ed_var rfl) (by walk_at "sd")) (ed_ixS (ed_var rfl) (ed_mod (ed_add (ed_div (ed_var rfl) ed_int (by walk_at "sd")) (ed_mul ed_int (ed_var rfl) (by walk_at "sd"))) ed_int (by walk_at "sd")) (by decide +kernel) (abc_at' ⟨Int.emod_nonneg _ (by decide), Int.emod_lt_of_pos _ (by decide)⟩)) (n := (c / 1456 % sizeF c i).toNat) (ix_nat ⟨hmod.1, by rw [List.length_map, List.length_map, List.length_range]; omega⟩) fun G6 H6 w6 => ?_
    have w6 := w6.ow_is (ow' := [(a, .lst ((namesF c i).map .str)), (b, .lst ((rowF c i).map .str))]) (by
      show [(a, Ob.lst ((namesF c i).map .str)), (b, .lst ((((List.range (sizeF c i).toNat).map fun p : Nat => letF ((c / 56 + (p : Int) * (1 + c / 3 % 25)) % 26)).map Dt.str).set (c / 1456 % sizeF c i).toNat (.str (letF ((c / 56 + 5 * (i : Int)) % 26)))))] = _
      unfold rowF
      rw [List.map_set])
    refine x_app (j := 0) w6 rfl (ed_var rfl) (ed_bor (j := 1) (i := 7) rfl rfl (ed_join ed_str (ed_var rfl) (rowF_sum c i)) rfl) (by rw [List.length_map, namesF_len]; omega) fun G7 H7 w7 => ?_
    refine At.mk (w7.drop 1) ⟨?_, rfl⟩ (by walk_at "le")
    rw [namesF_succ, List.map_append]
    rfl
  · obtain ⟨rfl, rfl⟩ := p
    have w3 := w'.frozen (j := 0) (i := 4) rfl rfl (by simp [fr0])
    exact x_ret w3 (ed_var rfl) q
abbrev s_law_leaf : Stmt := topS 19
abbrev N_law_leaf : List Str := ["_law_x", "_law_names_here"]
theorem sc_law_leaf : FnScope N_law_leaf ["_law_x", "_law_names_here"] (defScope s_law_leaf) := ⟨rfl, rfl, rfl, by decide +kernel, rfl, by decide +kernel, by decide +kernel⟩
theorem ok_law_leaf {f : Addr} {fd : FuncData} (F : Df K mg "_law_leaf" s_law_leaf ["_law_x", "_law_names_here"] f fd) (B : Free mg BLT) (C_law_number : Cl P w K mg base 1 "_law_number" ["_law_x"] (SpR K R_number)) : Cl P w K mg base 2 "_law_leaf" ["_law_x", "_law_names_here"] (SpR K R_leaf) := by
  refine F.cl (ok_R (k := 1) F.fn sc_law_leaf (by rintro _ _ ⟨x, ns, rfl, hn, rfl⟩; rfl) (fun cdv A outer s H E hr => ⟨_, (pss_one (ps_ret (pe_ix ix_list (pe_lst (pa_cons (pe_cl C_law_number hr (by decide) (by rfl) (pa_cons (pe_op op_fdiv (pv 0) pe_int) pa_nil)) (pa_cons (pe_ix ix_list (pv 1) (pe_op op_mod (pe_op op_fdiv (pv 0) pe_int) (pe_callB call_len_seq (by rfl) (B "len" (by decide)) bt_len (pa_cons (pv 1) pa_nil))) (fun _ _ => rfl)) pa_nil))) (pe_callTy call_int1 (by rfl) (B "int" (by decide)) bt_int (pa_cons (pe_cmpR op_gt (pe_op op_mod (pv 0) pe_int) pe_int (nomark _)) pa_nil)) (fun _ _ => rfl)))), fun G vs ds d Q hR gh rp q => ?_⟩))
  obtain ⟨x, ns, rfl, hn, rfl⟩ := hR
  have w := w_start (K := K) (N := N_law_leaf) (n := 0) (dn := [some (.int x), some (.lst (ns.map .str))]) gh rp rfl rfl
  have hl : 0 < (ns.map Dt.str).length := by rw [List.length_map]; exact hn
  refine x_ret w (ed_is (ed_ixL (ed_lst (ea_cons (ed_call (ea_cons (ed_div (ed_var rfl) ed_int (by walk_at "sd")) ea_nil) ⟨_, rfl, rfl⟩) (ea_cons (ed_ixL (ed_var rfl) (ed_mod (ed_div (ed_var rfl) ed_int (by walk_at "sd")) (ed_lenL (ea_cons (ed_var rfl) ea_nil)) (by walk_at "sd")) (at_strs' (by rw [List.length_map]; exact ⟨Int.emod_nonneg _ (by omega), Int.emod_lt_of_pos _ (by omega)⟩))) ea_nil))) (ed_intB (ea_cons (ed_gt (ed_mod (ed_var rfl) ed_int (by walk_at "sd")) ed_int) ea_nil)) at2b) ?_) q
  unfold leafF
  rw [List.length_map]
  by_cases h : x % 3 > 0
  · rw [if_pos h, if_pos (decide_eq_true h)]; rfl
  · rw [if_neg h, if_neg (by simpa using h)]; rfl
abbrev s_law_tree : Stmt := topS 20
abbrev N_law_tree : List Str := ["_law_x", "_law_names_here", "_law_deep", "_law_xs", "_law_left"]
theorem sc_law_tree : FnScope N_law_tree ["_law_x", "_law_names_here", "_law_deep"] (defScope s_law_tree) := ⟨rfl, rfl, rfl, by decide +kernel, rfl, by decide +kernel, by decide +kernel⟩
theorem ok_law_tree {n : Nat} {f : Addr} {fd : FuncData} (F : Df K mg "_law_tree" s_law_tree ["_law_x", "_law_names_here", "_law_deep"] f fd) (C_law_leaf : Cl P w K mg base 2 "_law_leaf" ["_law_x", "_law_names_here"] (SpR K R_leaf)) (C_law_stream : Cl P w K mg base 1 "_law_stream" ["_law_cell", "_law_many"] (SpR K R_stream)) (C_law_tree : Cl P w K mg base (2 + n) "_law_tree" ["_law_x", "_law_names_here", "_law_deep"] (SpR K (R_tree n))) : Cl P w K mg base (2 + (n + 1)) "_law_tree" ["_law_x", "_law_names_here", "_law_deep"] (SpR K (R_tree (n + 1))) := by
  refine F.cl (ok_R (k := (2 + n)) F.fn sc_law_tree (by rintro _ _ ⟨x, ns, m, rfl, hn, hm, rfl⟩; rfl) (fun cdv A outer s H E hr => ⟨_, (pss_cons (ps_if0 ((pw_or (pt_cmpR op_eq (pv 2) pe_int (nomark _)) (pw_or1 (pt_cmpR op_eq (pe_op op_mod (pv 0) pe_int) pe_int (nomark _))))).pt (pss_one (ps_ret (pe_cl C_law_leaf hr (by omega) (by rfl) (pa_cons (pe_op op_fdiv (pv 0) pe_int) (pa_cons (pv 1) pa_nil))))))
    (pss_cons (ps_set (i := 3) sc_law_tree.nd rfl (by first | exact .inl rfl | exact .inr rfl) (pe_cl C_law_stream hr (by omega) (by rfl) (pa_cons (pv 0) (pa_cons pe_int pa_nil))))
    (pss_cons (ps_set (i := 4) sc_law_tree.nd rfl (by first | exact .inl rfl | exact .inr rfl) (pe_cl C_law_tree hr (by omega) (by rfl) (pa_cons (pe_ix ix_list (pv 3) pe_int (fun _ _ => rfl)) (pa_cons (pv 1) (pa_cons (pe_op op_sub (pv 2) pe_int) pa_nil)))))
    (pss_cons (ps_if0 (pt_cmpR op_eq (pe_op op_mod (pe_ix ix_list (pv 3) pe_int (fun _ _ => rfl)) pe_int) pe_int (nomark _)) (pss_one (ps_ret (pe_tup (pa_cons pe_str (pa_cons (pv 4) (pa_cons (pe_op op_add pe_int (pe_op op_mod (pe_ix ix_list (pv 3) pe_int (fun _ _ => rfl)) (pe_ix ix_list (pe_lst (pa_cons pe_int (pa_cons pe_int pa_nil))) (pe_op op_mod (pe_op op_fdiv (pe_ix ix_list (pv 3) pe_int (fun _ _ => rfl)) pe_int) pe_int) (fun _ _ => rfl)))) pa_nil)))))))
    (pss_one (ps_ret (pe_tup (pa_cons (pe_ix ix_str pe_str (pe_op op_mod (pe_op op_fdiv (pe_ix ix_list (pv 3) pe_int (fun _ _ => rfl)) pe_int) pe_int) (fun _ _ => rfl)) (pa_cons (pv 4) (pa_cons (pe_cl C_law_tree hr (by omega) (by rfl) (pa_cons (pe_ix ix_list (pv 3) pe_int (fun _ _ => rfl)) (pa_cons (pv 1) (pa_cons (pe_op op_sub (pv 2) pe_int) pa_nil)))) pa_nil)))))))))), fun G vs ds d Q hR gh rp q => ?_⟩))
  obtain ⟨x, ns, m, rfl, hn, hm, rfl⟩ := hR
  have w := w_start (K := K) (N := N_law_tree) (n := 2) (dn := [some (.int x), some (.lst (ns.map .str)), some (.int m), none, none]) gh rp rfl rfl
  obtain ⟨k, rfl⟩ : ∃ k : Nat, m = (k : Int) + 1 := ⟨m.toNat - 1, by omega⟩
  have e1 : ((k : Int) + 1).toNat = k + 1 := by omega
  have e2 : ((k : Int) + 1 - 1).toNat = k := by omega
  have et : treeF ns (k + 1) x = (if k = 0 ∨ x % 5 = 0 then leafF (x / 5) ns else
      if sqF x 4 % 5 = 0 then .op "rest" (treeF ns k (sqF x 2)) (.num (1 + sqF x 3 % sel2 (sqF x 4 / 5 % 2) 9 1000000))
      else .op (opS (sqF x 4 / 5 % 3)) (treeF ns k (sqF x 2)) (treeF ns k (sqF x 3))) := rfl
  rw [e1] at q
  refine s_if0 w (et_or (et_test (ed_eq (ed_var rfl) ed_int)) fun hb => (et_test (ed_eq (ed_mod (ed_var rfl) ed_int (by walk_at "sd")) ed_int))) (fun hb H1 w1 => ?_) (fun hb H1 w1 => ?_)
  · rw [Bool.or_eq_true, decide_eq_true_iff, decide_eq_true_iff] at hb
    exact x_ret w1 (ed_is (ed_call (ea_cons (ed_div (ed_var rfl) ed_int (by walk_at "sd")) (ea_cons (ed_var rfl) ea_nil)) ⟨_, _, rfl, by assumption, rfl⟩) (by rw [et, if_pos (by omega)])) q
  · rw [Bool.or_eq_false_iff, decide_eq_false_iff_not, decide_eq_false_iff_not] at hb
    obtain ⟨hb1, hb2⟩ := hb
    rw [if_neg (by omega)] at et
    refine s_set w1 (ed_is (ed_call (ea_cons (ed_var rfl) (ea_cons ed_int ea_nil)) ⟨_, _, rfl, (by walk_at "sd"), rfl⟩) (e := .lst [.int (sqF x 2), .int (sqF x 3), .int (sqF x 4)]) (by rfl)) fun v2 H2 w2 => ?_
    refine s_set w2 (ed_is (ed_call (ea_cons (ed_ixL (ed_var rfl) ed_int rfl) (ea_cons (ed_var rfl) (ea_cons (ed_sub (ed_var rfl) ed_int) ea_nil))) ⟨_, _, _, rfl, by assumption, by omega, rfl⟩) (e := (treeF ns k (sqF x 2)).dt) (by rw [e2])) fun v3 H3 w3 => ?_
    refine s_if0 w3 (et_test (ed_eq (ed_mod (ed_ixL (ed_var rfl) ed_int rfl) ed_int (by walk_at "sd")) ed_int)) (fun hb H4 w4 => ?_) (fun hb H4 w4 => ?_)
    · have h := of_decide_eq_true hb
      exact x_ret w4 (ed_is (ed_tup (ea_cons ed_str (ea_cons (ed_var rfl) (ea_cons (ed_add ed_int (ed_mod (ed_ixL (ed_var rfl) ed_int rfl) (ed_ixL (ed_lst (ea_cons ed_int (ea_cons ed_int ea_nil))) (ed_mod (ed_div (ed_ixL (ed_var rfl) ed_int rfl) ed_int (by walk_at "sd")) ed_int (by walk_at "sd")) (at2i (by walk_at "sd"))) (by walk_at "sd"))) ea_nil)))) (by rw [et, if_pos h]; rfl)) q
    · have h := of_decide_eq_false hb
      obtain ⟨c, hc, ec⟩ := opS_at (k := sqF x 4 / 5 % 3) (by omega)
      exact x_ret w4 (ed_is (ed_tup (ea_cons (ed_ixS ed_str (ed_mod (ed_div (ed_ixL (ed_var rfl) ed_int rfl) ed_int (by walk_at "sd")) ed_int (by walk_at "sd")) (by decide +kernel) hc) (ea_cons (ed_var rfl) (ea_cons (ed_call (ea_cons (ed_ixL (ed_var rfl) ed_int rfl) (ea_cons (ed_var rfl) (ea_cons (ed_sub (ed_var rfl) ed_int) ea_nil))) ⟨_, _, _, rfl, by assumption, by omega, rfl⟩) ea_nil)))) (by rw [et, if_neg h, ← ec, e2]; rfl)) q
theorem all_law_tree {f : Addr} {fd : FuncData} (F : Df K mg "_law_tree" s_law_tree ["_law_x", "_law_names_here", "_law_deep"] f fd) (C_law_leaf : Cl P w K mg base 2 "_law_leaf" ["_law_x", "_law_names_here"] (SpR K R_leaf)) (C_law_stream : Cl P w K mg base 1 "_law_stream" ["_law_cell", "_law_many"] (SpR K R_stream)) : ∀ n : Nat, Cl P w K mg base (2 + n) "_law_tree" ["_law_x", "_law_names_here", "_law_deep"] (SpR K (R_tree n))
  | 0 => F.cl ⟨fun vs H Q E ⟨_, _, _, _, _, hR, _⟩ => absurd hR tree_0, fun A outer s H args us vs Q E _ _ _ _ ⟨_, _, _, _, _, hR, _⟩ => absurd hR tree_0⟩
  | n + 1 => ok_law_tree F C_law_leaf C_law_stream (all_law_tree F C_law_leaf C_law_stream n)
abbrev s_law_expression : Stmt := topS 21
abbrev N_law_expression : List Str := ["_law_xs", "_law_names_here"]
theorem sc_law_expression : FnScope N_law_expression ["_law_xs", "_law_names_here"] (defScope s_law_expression) := ⟨rfl, rfl, rfl, by decide +kernel, rfl, by decide +kernel, by decide +kernel⟩
theorem ok_law_expression {f : Addr} {fd : FuncData} (F : Df K mg "_law_expression" s_law_expression ["_law_xs", "_law_names_here"] f fd) (C_law_tree : Cl P w K mg base 8 "_law_tree" ["_law_x", "_law_names_here", "_law_deep"] (SpR K (R_tree 6))) : Cl P w K mg base 9 "_law_expression" ["_law_xs", "_law_names_here"] (SpR K R_expr) := by
  refine F.cl (ok_R (k := 8) F.fn sc_law_expression (by rintro _ _ ⟨a, b, r, ns, rfl, hn, rfl⟩; rfl) (fun cdv A outer s H E hr => ⟨_, (pss_one (ps_ret (pe_cl C_law_tree hr (by decide) (by rfl) (pa_cons (pe_ix ix_list (pv 0) pe_int (fun _ _ => rfl)) (pa_cons (pv 1) (pa_cons (pe_ix ix_list (pe_lst (pa_cons pe_int (pa_cons pe_int (pa_cons pe_int (pa_cons pe_int (pa_cons pe_int (pa_cons pe_int (pa_cons pe_int (pa_cons pe_int pa_nil))))))))) (pe_op op_mod (pe_ix ix_list (pv 0) pe_int (fun _ _ => rfl)) pe_int) (fun _ _ => rfl)) pa_nil)))))), fun G vs ds d Q hR gh rp q => ?_⟩))
  obtain ⟨a, b, r, ns, rfl, hn, rfl⟩ := hR
  have w := w_start (K := K) (N := N_law_expression) (n := 0) (dn := [some (.lst (.int a :: .int b :: r)), some (.lst (ns.map .str))]) gh rp rfl rfl
  have hd := deepF_lt (a % 8) (by omega)
  exact x_ret w (ed_is (ed_call (ea_cons (ed_ixL (ed_var rfl) ed_int (by exact atI_nat (j := 1) rfl)) (ea_cons (ed_var rfl) (ea_cons (ed_ixL (ed_lst (ea_cons ed_int (ea_cons ed_int (ea_cons ed_int (ea_cons ed_int (ea_cons ed_int (ea_cons ed_int (ea_cons ed_int (ea_cons ed_int ea_nil))))))))) (ed_mod (ed_ixL (ed_var rfl) ed_int (by exact atI_nat (j := 0) rfl)) ed_int (by walk_at "sd")) (at_ints (ns := [1, 2, 2, 2, 3, 3, 4, 6]) (by show 0 ≤ _ ∧ _ < (8 : Int); omega))) ea_nil))) ⟨_, _, _, rfl, hn, hd, rfl⟩) (by rfl)) q
abbrev s_law_condition : Stmt := topS 22
abbrev N_law_condition : List Str := ["_law_xs", "_law_names_here", "_law_one", "_law_other"]
theorem sc_law_condition : FnScope N_law_condition ["_law_xs", "_law_names_here"] (defScope s_law_condition) := ⟨rfl, rfl, rfl, by decide +kernel, rfl, by decide +kernel, by decide +kernel⟩
theorem ok_law_condition {f : Addr} {fd : FuncData} (F : Df K mg "_law_condition" s_law_condition ["_law_xs", "_law_names_here"] f fd) (B : Free mg BLT) (C_law_expression : Cl P w K mg base 9 "_law_expression" ["_law_xs", "_law_names_here"] (SpR K R_expr)) (C_law_leaf : Cl P w K mg base 2 "_law_leaf" ["_law_x", "_law_names_here"] (SpR K R_leaf)) : Cl P w K mg base 10 "_law_condition" ["_law_xs", "_law_names_here"] (SpR K R_cond14) := by
  refine F.cl (ok_R (k := 9) F.fn sc_law_condition (by rintro _ _ ⟨x, ns, rfl, hn, rfl⟩; rfl) (fun cdv A outer s H E hr => ⟨_, (pss_cons (ps_set (i := 2) sc_law_condition.nd rfl (by first | exact .inl rfl | exact .inr rfl) (pe_ix ix_list (pe_lst (pa_cons (pe_cl C_law_leaf hr (by decide) (by rfl) (pa_cons (pe_ix ix_list (pv 0) pe_int (fun _ _ => rfl)) (pa_cons (pv 1) pa_nil))) (pa_cons (pe_cl C_law_expression hr (by decide) (by rfl) (pa_cons (pe_slice sl_list (pv 0) (po_some pe_int) po_none) (pa_cons (pv 1) pa_nil))) pa_nil))) (pe_callTy call_int1 (by rfl) (B "int" (by decide)) bt_int (pa_cons (pe_cmpR op_eq (pe_op op_mod (pe_ix ix_list (pv 0) pe_int (fun _ _ => rfl)) pe_int) pe_int (nomark _)) pa_nil)) (fun _ _ => rfl)))
    (pss_cons (ps_set (i := 3) sc_law_condition.nd rfl (by first | exact .inl rfl | exact .inr rfl) (pe_ix ix_list (pe_lst (pa_cons (pe_cl C_law_leaf hr (by decide) (by rfl) (pa_cons (pe_ix ix_list (pv 0) pe_int (fun _ _ => rfl)) (pa_cons (pv 1) pa_nil))) (pa_cons (pe_cl C_law_expression hr (by decide) (by rfl) (pa_cons (pe_slice sl_list (pv 0) (po_some pe_int) po_none) (pa_cons (pv 1) pa_nil))) pa_nil))) (pe_callTy call_int1 (by rfl) (B "int" (by decide)) bt_int (pa_cons (pe_cmpR op_eq (pe_op op_mod (pe_op op_fdiv (pe_ix ix_list (pv 0) pe_int (fun _ _ => rfl)) pe_int) pe_int) pe_int (nomark _)) pa_nil)) (fun _ _ => rfl)))
    (pss_one (ps_ret (pe_tup (pa_cons (pe_ix ix_list (pe_lst (pa_cons pe_str (pa_cons pe_str (pa_cons pe_str (pa_cons pe_str pa_nil))))) (pe_op op_mod (pe_ix ix_list (pv 0) pe_int (fun _ _ => rfl)) pe_int) (fun _ _ => rfl)) (pa_cons (pv 2) (pa_cons (pv 3) pa_nil)))))))), fun G vs ds d Q hR gh rp q => ?_⟩))
  obtain ⟨x, ns, rfl, hn, rfl⟩ := hR
  have w := w_start (K := K) (N := N_law_condition) (n := 2) (dn := [some (.lst [.int (x 0), .int (x 1), .int (x 2), .int (x 3), .int (x 4), .int (x 5), .int (x 6), .int (x 7), .int (x 8), .int (x 9), .int (x 10), .int (x 11), .int (x 12), .int (x 13)]), some (.lst (ns.map .str)), none, none]) gh rp rfl rfl
  refine s_set w (ed_is (ed_ixL (ed_lst (ea_cons (ed_call (ea_cons (ed_ixL (ed_var rfl) ed_int rfl) (ea_cons (ed_var rfl) ea_nil)) ⟨_, _, rfl, by assumption, rfl⟩) (ea_cons (ed_call (ea_cons (ed_slL (ed_var rfl) (eo_some ed_int) eo_none) (ea_cons (ed_var rfl) ea_nil)) ⟨_, _, _, _, rfl, by assumption, rfl⟩) ea_nil))) (ed_intB (ea_cons (ed_eq (ed_mod (ed_ixL (ed_var rfl) ed_int rfl) ed_int (by walk_at "sd")) ed_int) ea_nil)) at2b) (e := (condF x ns).l.dt) (by show (if decide (x 5 % 3 = 0) = true then (exprF (x 2) (x 3) ns).dt else (leafF (x 1) ns).dt) = _; unfold condF; by_cases h : x 5 % 3 = 0 <;> simp [h])) fun v1 H1 w1 => ?_
  refine s_set w1 (ed_is (ed_ixL (ed_lst (ea_cons (ed_call (ea_cons (ed_ixL (ed_var rfl) ed_int rfl) (ea_cons (ed_var rfl) ea_nil)) ⟨_, _, rfl, by assumption, rfl⟩) (ea_cons (ed_call (ea_cons (ed_slL (ed_var rfl) (eo_some ed_int) eo_none) (ea_cons (ed_var rfl) ea_nil)) ⟨_, _, _, _, rfl, by assumption, rfl⟩) ea_nil))) (ed_intB (ea_cons (ed_eq (ed_mod (ed_div (ed_ixL (ed_var rfl) ed_int rfl) ed_int (by walk_at "sd")) ed_int (by walk_at "sd")) ed_int) ea_nil)) at2b) (e := (condF x ns).r.dt) (by show (if decide (x 5 / 3 % 3 = 0) = true then (exprF (x 6) (x 7) ns).dt else (leafF (x 4) ns).dt) = _; unfold condF; by_cases h : x 5 / 3 % 3 = 0 <;> simp [h])) fun v2 H2 w2 => ?_
  exact x_ret w2 (ed_is (ed_tup (ea_cons (ed_ixL (ed_lst (ea_cons ed_str (ea_cons ed_str (ea_cons ed_str (ea_cons ed_str ea_nil))))) (ed_mod (ed_ixL (ed_var rfl) ed_int rfl) ed_int (by walk_at "sd")) (at4s (by walk_at "sd"))) (ea_cons (ed_var rfl) (ea_cons (ed_var rfl) ea_nil)))) (by rfl)) q
abbrev s_law_worth : Stmt := topS 23
abbrev N_law_worth : List Str := ["_law_part", "_law_held_here", "_law_left", "_law_right", "_law_found"]
theorem sc_law_worth : FnScope N_law_worth ["_law_part", "_law_held_here"] (defScope s_law_worth) := ⟨rfl, rfl, rfl, by decide +kernel, rfl, by decide +kernel, by decide +kernel⟩
theorem ok_law_worth {n : Nat} {f : Addr} {fd : FuncData} (F : Df K mg "_law_worth" s_law_worth ["_law_part", "_law_held_here"] f fd) (B : Free mg BLT) (C_law_worth : Cl P w K mg base (0 + n) "_law_worth" ["_law_part", "_law_held_here"] (SpR K (R_worth n))) : Cl P w K mg base (0 + (n + 1)) "_law_worth" ["_law_part", "_law_held_here"] (SpR K (R_worth (n + 1))) := by
  refine F.cl (ok_R (k := (0 + n)) F.fn sc_law_worth (by rintro _ _ ⟨e, ds, ns, rfl, ho, hh, hd, rfl⟩; rfl) (fun cdv A outer s H E hr => ⟨_, (pss_cons (ps_if0 (pt_val (pe_callB call_isi (by rfl) (B "isinstance" (by decide)) bt_isinstance (pa_cons (pv 0) (pa_cons (pe_ty (by rfl) (B "str" (by decide)) bt_str) pa_nil)))) (pss_one (ps_ret (pe_dget (hu_of hr) (pv 1) (pv 0) (fun _ _ => rfl)))))
    (pss_cons (ps_if0 (pt_not (pt_val (pe_callB call_isi (by rfl) (B "isinstance" (by decide)) bt_isinstance (pa_cons (pv 0) (pa_cons (pe_ty (by rfl) (B "tuple" (by decide)) bt_tuple) pa_nil))))) (pss_one (ps_ret (pv 0))))
    (pss_cons (ps_set (i := 2) sc_law_worth.nd rfl (by first | exact .inl rfl | exact .inr rfl) (pe_cl C_law_worth hr (by omega) (by rfl) (pa_cons (pe_ix ix_tup (pv 0) pe_int (fun _ _ => rfl)) (pa_cons (pv 1) pa_nil))))
    (pss_cons (ps_set (i := 3) sc_law_worth.nd rfl (by first | exact .inl rfl | exact .inr rfl) (pe_cl C_law_worth hr (by omega) (by rfl) (pa_cons (pe_ix ix_tup (pv 0) pe_int (fun _ _ => rfl)) (pa_cons (pv 1) pa_nil))))
    (pss_cons (ps_if0 ((pw_or (pt_cmpR op_isN (pv 2) pe_non (nomark _)) (pw_or1 (pt_cmpR op_isN (pv 3) pe_non (nomark _))))).pt (pss_one (ps_ret pe_non)))
    (pss_cons (ps_if0 (pt_cmpR op_eq (pe_ix ix_tup (pv 0) pe_int (fun _ _ => rfl)) pe_str (nomark _)) (pss_one (ps_ret (pe_op op_sub (pv 2) (pe_op op_mul (pe_op op_fdiv (pv 2) (pv 3)) (pv 3))))))
    (pss_cons (ps_set (i := 4) sc_law_worth.nd rfl (by first | exact .inl rfl | exact .inr rfl) (pe_op op_mul (pv 2) (pv 3)))
    (pss_cut (ps_if0 (pt_cmpR op_eq (pe_ix ix_tup (pv 0) pe_int (fun _ _ => rfl)) pe_str (nomark _)) (pss_one (ps_set (i := 4) sc_law_worth.nd rfl (by first | exact .inl rfl | exact .inr rfl) (pe_op op_add (pv 2) (pv 3)))))
    (pss_cut (ps_if0 (pt_cmpR op_eq (pe_ix ix_tup (pv 0) pe_int (fun _ _ => rfl)) pe_str (nomark _)) (pss_one (ps_set (i := 4) sc_law_worth.nd rfl (by first | exact .inl rfl | exact .inr rfl) (pe_op op_sub (pv 2) (pv 3)))))
    (pss_cons (ps_if0 ((pw_or (pt_cmpR op_lt (pv 4) (pe_un un_neg pe_int) (nomark _)) (pw_or1 (pt_cmpR op_gt (pv 4) pe_int (nomark _))))).pt (pss_one (ps_ret pe_non)))
    (pss_one (ps_ret (pv 4))))))))))))), fun G vs ds d Q hR gh rp q => ?_⟩))
  obtain ⟨e, ds, ns, rfl, ho, hh, hd, rfl⟩ := hR
  have w := w_start (K := K) (N := N_law_worth) (n := 3) (dn := [some (e.dt), some (.dct ds), none, none, none]) gh rp rfl rfl
  rcases e with i | s | ⟨o, l, r⟩
  · refine s_if0F w (et_B (ed_isi (ea_cons (ed_var rfl) (ea_cons ed_ty ea_nil)) (by walk_at "sd"))) (by rfl) fun H1 w1 => ?_
    refine s_if0T w1 (et_not (et_B (ed_isi (ea_cons (ed_var rfl) (ea_cons ed_ty ea_nil)) (by walk_at "sd")))) (by rfl) fun H2 w2 => ?_
    exact x_ret w2 (ed_is (ed_var rfl) (by rfl)) q
  · refine s_if0T w (et_B (ed_isi (ea_cons (ed_var rfl) (ea_cons ed_ty ea_nil)) (by walk_at "sd"))) (by rfl) fun H1 w1 => ?_
    exact x_ret w1 (ed_is (ed_dget (k := .inr s) (ed_var rfl) (ed_var rfl) (hh.get ho).1) (by rfl)) q
  have hd' : max l.deep r.deep + 1 ≤ n + 1 := hd
  refine s_if0F w (et_B (ed_isi (ea_cons (ed_var rfl) (ea_cons ed_ty ea_nil)) (by walk_at "sd"))) (by rfl) fun H1 w1 => ?_
  refine s_if0F w1 (et_not (et_B (ed_isi (ea_cons (ed_var rfl) (ea_cons ed_ty ea_nil)) (by walk_at "sd")))) (by rfl) fun H2 w2 => ?_
  refine s_set w2 (ed_call (ea_cons (ed_ixT (ed_var rfl) ed_int rfl) (ea_cons (ed_var rfl) ea_nil)) ⟨_, _, _, rfl, by first | exact ho.1 | exact ho.2.1, hh, by omega, rfl⟩) fun v3 H3 w3 => ?_
  refine s_set w3 (ed_call (ea_cons (ed_ixT (ed_var rfl) ed_int rfl) (ea_cons (ed_var rfl) ea_nil)) ⟨_, _, _, rfl, by first | exact ho.1 | exact ho.2.1, hh, by omega, rfl⟩) fun v4 H4 w4 => ?_
  have ew := worth_op ds o l r
  have hr0 : ∀ b, o = "rest" → worthF ds r = some b → 1 ≤ b := fun b e k => rest_ok ho e k
  have hla : ∀ a, worthF ds l = some a → -1000000 ≤ a ∧ a ≤ 1000000 := fun a k => worthF_lt hh ho.1 k
  have hlb : ∀ b, worthF ds r = some b → -1000000 ≤ b ∧ b ≤ 1000000 := fun b k => worthF_lt hh ho.2.1 k
  generalize worthF ds l = xa at *
  generalize worthF ds r = xb at *
  rcases xa with _ | a
  · refine s_if0T w4 (et_or (et_test (ed_isN (ed_var rfl) ed_non)) fun hb => (et_test (ed_isN (ed_var rfl) ed_non))) (by rfl) fun H5 w5 => ?_
    exact x_ret w5 (ed_is ed_non (congrArg dO ew.symm)) q
  rcases xb with _ | b
  · refine s_if0T w4 (et_or (et_test (ed_isN (ed_var rfl) ed_non)) fun hb => (et_test (ed_isN (ed_var rfl) ed_non))) (by rfl) fun H5 w5 => ?_
    exact x_ret w5 (ed_is ed_non (congrArg dO ew.symm)) q
  refine s_if0F w4 (et_or (et_test (ed_isN (ed_var rfl) ed_non)) fun hb => (et_test (ed_isN (ed_var rfl) ed_non))) (by rfl) fun H5 w5 => ?_
  have ha := hla a rfl
  have hb := hlb b rfl
  have ew : worthF ds (.op o l r) = opF o a b := ew
  refine s_if0 w5 (et_test (ed_eqS (ed_ixT (ed_var rfl) ed_int rfl) ed_str)) (fun hc H6 w6 => ?_) (fun hc H6 w6 => ?_)
  · have he := of_decide_eq_true hc
    have hb1 := hr0 b he rfl
    exact x_ret w6 (ed_is (ed_sub (ed_var rfl) (ed_mul (ed_div (ed_var rfl) (ed_var rfl) (by walk_at "sd")) (ed_var rfl) (by walk_at "sd"))) ((congrArg Dt.int (show a - a / b * b = a % b by rw [Int.emod_def, Int.mul_comm])).trans (congrArg dO (ew.trans (opF_rest he)).symm))) q
  have hne := of_decide_eq_false hc
  
  refine s_set w6 (ed_mul (ed_var rfl) (ed_var rfl) (by walk_at "sd")) fun v7 H7 w7 => ?_
  refine x_ifset w7 (et_test (ed_eqS (ed_ixT (ed_var rfl) ed_int rfl) ed_str)) rfl (fun _ => (ed_add (ed_var rfl) (ed_var rfl))) fun σ8 G8 H8 w8 => ?_
  refine x_ifset w8 (et_test (ed_eqS (ed_ixT (ed_var rfl) ed_int rfl) ed_str)) rfl (fun _ => (ed_sub (ed_var rfl) (ed_var rfl))) fun σ9 G9 H9 w9 => ?_
  have ef : (if decide (o = "-") = true then Dt.int (a - b) else if decide (o = "+") = true then Dt.int (a + b) else Dt.int (a * b)) = Dt.int (plainF o a b) := by
    unfold plainF
    by_cases h1 : o = "+"
    · subst h1; rfl
    · by_cases h2 : o = "-"
      · subst h2; rfl
      · rw [if_neg h1, if_neg h2, if_neg (by simpa using h2), if_neg (by simpa using h1)]
  rw [ef] at w9
  refine s_if0 w9 (et_or (et_test (ed_lt (ed_var rfl) (ed_neg ed_int))) fun hb => (et_test (ed_gt (ed_var rfl) ed_int))) (fun hc H8 w8 => ?_) (fun hc H8 w8 => ?_)
  · have h : ¬ (-1000000 ≤ plainF o a b ∧ plainF o a b ≤ 1000000) := by
      rw [Bool.or_eq_true, decide_eq_true_iff, decide_eq_true_iff] at hc
      omega
    exact x_ret w8 (ed_is ed_non (congrArg dO (ew.trans (opF_out hne h)).symm)) q
  · have h : -1000000 ≤ plainF o a b ∧ plainF o a b ≤ 1000000 := by
      rw [Bool.or_eq_false_iff, decide_eq_false_iff_not, decide_eq_false_iff_not] at hc
      omega
    exact x_ret w8 (ed_is (ed_var rfl) (congrArg dO (ew.trans (opF_in hne h)).symm)) q
theorem all_law_worth {f : Addr} {fd : FuncData} (F : Df K mg "_law_worth" s_law_worth ["_law_part", "_law_held_here"] f fd) (B : Free mg BLT) : ∀ n : Nat, Cl P w K mg base (0 + n) "_law_worth" ["_law_part", "_law_held_here"] (SpR K (R_worth n))
  | 0 => F.cl ⟨fun vs H Q E ⟨_, _, _, _, _, hR, _⟩ => absurd hR worth_0, fun A outer s H args us vs Q E _ _ _ _ ⟨_, _, _, _, _, hR, _⟩ => absurd hR worth_0⟩
  | n + 1 => ok_law_worth F B (all_law_worth F B n)
abbrev s_law_holds : Stmt := topS 24
abbrev N_law_holds : List Str := ["_law_told_here", "_law_held_here", "_law_left", "_law_right"]
theorem sc_law_holds : FnScope N_law_holds ["_law_told_here", "_law_held_here"] (defScope s_law_holds) := ⟨rfl, rfl, rfl, by decide +kernel, rfl, by decide +kernel, by decide +kernel⟩
theorem ok_law_holds {f : Addr} {fd : FuncData} (F : Df K mg "_law_holds" s_law_holds ["_law_told_here", "_law_held_here"] f fd) (C_law_worth : Cl P w K mg base 6 "_law_worth" ["_law_part", "_law_held_here"] (SpR K (R_worth 6))) : Cl P w K mg base 7 "_law_holds" ["_law_told_here", "_law_held_here"] (SpR K R_holds) := by
  refine F.cl (ok_R (k := 6) F.fn sc_law_holds (by rintro _ _ ⟨⟨o, l, r⟩, ds, ns, rfl, ⟨ho1, ho2, ho⟩, hh, hd1, hd2, rfl⟩; rfl) (fun cdv A outer s H E hr => ⟨_, (pss_cons (ps_set (i := 2) sc_law_holds.nd rfl (by first | exact .inl rfl | exact .inr rfl) (pe_cl C_law_worth hr (by decide) (by rfl) (pa_cons (pe_ix ix_tup (pv 0) pe_int (fun _ _ => rfl)) (pa_cons (pv 1) pa_nil))))
    (pss_cons (ps_set (i := 3) sc_law_holds.nd rfl (by first | exact .inl rfl | exact .inr rfl) (pe_cl C_law_worth hr (by decide) (by rfl) (pa_cons (pe_ix ix_tup (pv 0) pe_int (fun _ _ => rfl)) (pa_cons (pv 1) pa_nil))))
    (pss_cons (ps_if0 ((pw_or (pt_cmpR op_isN (pv 2) pe_non (nomark _)) (pw_or1 (pt_cmpR op_isN (pv 3) pe_non (nomark _))))).pt (pss_one (ps_ret pe_non)))
    (pss_one (ps_ret (pe_dget (hu_of hr) (pe_disp (pps_cons pe_str (pe_cmpR op_lt (pv 2) (pv 3) (nomark _)) (pps_cons pe_str (pe_cmpR op_le (pv 2) (pv 3) (nomark _)) (pps_cons pe_str (pe_cmpR op_eq (pv 2) (pv 3) (nomark _)) (pps_cons pe_str (pe_cmpR op_ne (pv 2) (pv 3) (nomark _)) pps_nil)))) (by rfl) (by rfl) (by simp) (by decide)) (pe_ix ix_tup (pv 0) pe_int (fun _ _ => rfl)) (fun _ _ => rfl))))))), fun G vs ds d Q hR gh rp q => ?_⟩))
  obtain ⟨⟨o, l, r⟩, ds, ns, rfl, ⟨ho1, ho2, ho⟩, hh, hd1, hd2, rfl⟩ := hR
  have w := w_start (K := K) (N := N_law_holds) (n := 2) (dn := [some (Cn.dt ⟨o, l, r⟩), some (.dct ds), none, none]) gh rp rfl rfl
  have hd1 : l.deep ≤ 6 := hd1
  have hd2 : r.deep ≤ 6 := hd2
  have ho1 : l.ok ns := ho1
  have ho2 : r.ok ns := ho2
  refine s_set w (ed_call (ea_cons (ed_ixT (ed_var rfl) ed_int rfl) (ea_cons (ed_var rfl) ea_nil)) ⟨_, _, _, rfl, by assumption, by assumption, by assumption, rfl⟩) fun v3 H3 w3 => ?_
  refine s_set w3 (ed_call (ea_cons (ed_ixT (ed_var rfl) ed_int rfl) (ea_cons (ed_var rfl) ea_nil)) ⟨_, _, _, rfl, by assumption, by assumption, by assumption, rfl⟩) fun v4 H4 w4 => ?_
  have en1 : worthF ds l = none → holdsF ds ⟨o, l, r⟩ = none := fun h => holdsF_none (.inl h)
  have en2 : worthF ds r = none → holdsF ds ⟨o, l, r⟩ = none := fun h => holdsF_none (.inr h)
  have es : ∀ a b, worthF ds l = some a → worthF ds r = some b → holdsF ds ⟨o, l, r⟩ = some (cmpF o a b) := fun a b h k => holdsF_some h k
  generalize worthF ds l = xa at *
  generalize worthF ds r = xb at *
  rcases xa with _ | a
  · refine s_if0T w4 (et_or (et_test (ed_isN (ed_var rfl) ed_non)) fun hb => (et_test (ed_isN (ed_var rfl) ed_non))) (by rfl) fun H5 w5 => ?_
    exact x_ret w5 (ed_is ed_non (congrArg dOB (en1 rfl).symm)) q
  rcases xb with _ | b
  · refine s_if0T w4 (et_or (et_test (ed_isN (ed_var rfl) ed_non)) fun hb => (et_test (ed_isN (ed_var rfl) ed_non))) (by rfl) fun H5 w5 => ?_
    exact x_ret w5 (ed_is ed_non (congrArg dOB (en2 rfl).symm)) q
  refine s_if0F w4 (et_or (et_test (ed_isN (ed_var rfl) ed_non)) fun hb => (et_test (ed_isN (ed_var rfl) ed_non))) (by rfl) fun H5 w5 => ?_
  have es := es a b rfl rfl
  have ho : o = "<" ∨ o = "<=" ∨ o = "=" ∨ o = "!=" := ho
  
  rcases ho with rfl | rfl | rfl | rfl
  · exact x_ret w5 (ed_is (ed_dget (k := .inr _) (ed_disp (Ep.cons (k := .inr "<") ed_str (ed_lt (ed_var rfl) (ed_var rfl)) rfl (Ep.cons (k := .inr "<=") ed_str (ed_le (ed_var rfl) (ed_var rfl)) rfl (Ep.cons (k := .inr "=") ed_str (ed_eq (ed_var rfl) (ed_var rfl)) rfl (Ep.cons (k := .inr "!=") ed_str (ed_ne (ed_var rfl) (ed_var rfl)) rfl Ep.nil))))) (ed_ixT (ed_var rfl) ed_int rfl) (by walk_at "sd")) (congrArg dOB es.symm)) q
  · exact x_ret w5 (ed_is (ed_dget (k := .inr _) (ed_disp (Ep.cons (k := .inr "<") ed_str (ed_lt (ed_var rfl) (ed_var rfl)) rfl (Ep.cons (k := .inr "<=") ed_str (ed_le (ed_var rfl) (ed_var rfl)) rfl (Ep.cons (k := .inr "=") ed_str (ed_eq (ed_var rfl) (ed_var rfl)) rfl (Ep.cons (k := .inr "!=") ed_str (ed_ne (ed_var rfl) (ed_var rfl)) rfl Ep.nil))))) (ed_ixT (ed_var rfl) ed_int rfl) (by walk_at "sd")) (congrArg dOB es.symm)) q
  · exact x_ret w5 (ed_is (ed_dget (k := .inr _) (ed_disp (Ep.cons (k := .inr "<") ed_str (ed_lt (ed_var rfl) (ed_var rfl)) rfl (Ep.cons (k := .inr "<=") ed_str (ed_le (ed_var rfl) (ed_var rfl)) rfl (Ep.cons (k := .inr "=") ed_str (ed_eq (ed_var rfl) (ed_var rfl)) rfl (Ep.cons (k := .inr "!=") ed_str (ed_ne (ed_var rfl) (ed_var rfl)) rfl Ep.nil))))) (ed_ixT (ed_var rfl) ed_int rfl) (by walk_at "sd")) (congrArg dOB es.symm)) q
  · exact x_ret w5 (ed_is (ed_dget (k := .inr _) (ed_disp (Ep.cons (k := .inr "<") ed_str (ed_lt (ed_var rfl) (ed_var rfl)) rfl (Ep.cons (k := .inr "<=") ed_str (ed_le (ed_var rfl) (ed_var rfl)) rfl (Ep.cons (k := .inr "=") ed_str (ed_eq (ed_var rfl) (ed_var rfl)) rfl (Ep.cons (k := .inr "!=") ed_str (ed_ne (ed_var rfl) (ed_var rfl)) rfl Ep.nil))))) (ed_ixT (ed_var rfl) ed_int rfl) (by walk_at "sd")) (congrArg dOB es.symm)) q
abbrev s_law_whole : Stmt := topS 25
abbrev N_law_whole : List Str := ["_law_found"]
theorem sc_law_whole : FnScope N_law_whole ["_law_found"] (defScope s_law_whole) := ⟨rfl, rfl, rfl, by decide +kernel, rfl, by decide +kernel, by decide +kernel⟩
theorem ok_law_whole {f : Addr} {fd : FuncData} (F : Df K mg "_law_whole" s_law_whole ["_law_found"] f fd) (B : Free mg BLT) : Cl P w K mg base 1 "_law_whole" ["_law_found"] (SpR K R_whole) := by
  refine F.cl (ok_R (k := 0) F.fn sc_law_whole (by rintro _ _ ⟨x, rfl, hx, rfl⟩; rfl) (fun cdv A outer s H E hr => ⟨_, (pss_one (ps_ret (pe_and (pe_callB call_isi (by rfl) (B "isinstance" (by decide)) bt_isinstance (pa_cons (pv 0) (pa_cons (pe_ty (by rfl) (B "int" (by decide)) bt_int) pa_nil))) (pe_one (pe_not (pe_callB call_isi (by rfl) (B "isinstance" (by decide)) bt_isinstance (pa_cons (pv 0) (pa_cons (pe_ty (by rfl) (B "bool" (by decide)) bt_bool) pa_nil)))))))), fun G vs ds d Q hR gh rp q => ?_⟩))
  obtain ⟨x, rfl, hx, rfl⟩ := hR
  have w := w_start (K := K) (N := N_law_whole) (n := 0) (dn := [some (x)]) gh rp rfl rfl
  exact x_ret w (ed_is (ed_andV (ed_isi (ea_cons (ed_var rfl) (ea_cons ed_ty ea_nil)) (by walk_at "sd")) fun hb => (ed_notV (ed_isi (ea_cons (ed_var rfl) (ea_cons ed_ty ea_nil)) (by walk_at "sd")))) (by cases x <;> first | rfl | cases hx)) q
abbrev s_law_is_stretch : Stmt := topS 26
abbrev N_law_is_stretch : List Str := ["_law_found"]
theorem sc_law_is_stretch : FnScope N_law_is_stretch ["_law_found"] (defScope s_law_is_stretch) := ⟨rfl, rfl, rfl, by decide +kernel, rfl, by decide +kernel, by decide +kernel⟩
theorem ok_law_is_stretch {f : Addr} {fd : FuncData} (F : Df K mg "_law_is_stretch" s_law_is_stretch ["_law_found"] f fd) (B : Free mg BLT) (C_law_whole : Cl P w K mg base 1 "_law_whole" ["_law_found"] (SpR K R_whole)) : Cl P w K mg base 2 "_law_is_stretch" ["_law_found"] (SpR K R_is) := by
  refine F.cl (ok_R (k := 1) F.fn sc_law_is_stretch (by rintro _ _ ⟨x, rfl, rfl⟩; rfl) (fun cdv A outer s H E hr => ⟨_, (pss_cons (ps_if0 ((pw_or (pt_not (pt_val (pe_callB call_isi (by rfl) (B "isinstance" (by decide)) bt_isinstance (pa_cons (pv 0) (pa_cons (pe_ty (by rfl) (B "tuple" (by decide)) bt_tuple) pa_nil))))) (pw_or1 (pt_cmpR op_ne (pe_callB call_len_seq (by rfl) (B "len" (by decide)) bt_len (pa_cons (pv 0) pa_nil)) pe_int (nomark _))))).pt (pss_one (ps_ret pe_bl)))
    (pss_one (ps_ret (pe_and (pe_cl C_law_whole hr (by decide) (by rfl) (pa_cons (pe_ix ix_tup (pv 0) pe_int (fun _ _ => rfl)) pa_nil)) (pe_one (pe_cl C_law_whole hr (by decide) (by rfl) (pa_cons (pe_ix ix_tup (pv 0) pe_int (fun _ _ => rfl)) pa_nil))))))), fun G vs ds d Q hR gh rp q => ?_⟩))
  obtain ⟨x, rfl, rfl⟩ := hR
  have w := w_start (K := K) (N := N_law_is_stretch) (n := 0) (dn := [some (dS x)]) gh rp rfl rfl
  rcases x with _ | ⟨a, b⟩
  · refine s_if0T w (et_or (b := false) (et_not (et_B (ed_isi (ea_cons (ed_var rfl) (ea_cons ed_ty ea_nil)) rfl))) fun hb => absurd hb (by decide)) rfl fun H1 w1 => ?_
    exact x_ret w1 ed_bl q
  · refine s_if0F w (et_or (et_not (et_B (ed_isi (ea_cons (ed_var rfl) (ea_cons ed_ty ea_nil)) (by walk_at "sd")))) fun hb => (et_test (ed_ne (ed_lenT (ea_cons (ed_var rfl) ea_nil)) ed_int))) rfl fun H1 w1 => ?_
    exact x_ret w1 (ed_is (ed_andV (ed_call (ea_cons (ed_ixT (ed_var rfl) ed_int rfl) ea_nil) ⟨_, rfl, rfl, rfl⟩) fun hb => (ed_call (ea_cons (ed_ixT (ed_var rfl) ed_int rfl) ea_nil) ⟨_, rfl, rfl, rfl⟩)) (by rfl)) q
abbrev s_law_stretch : Stmt := topS 28
abbrev N_law_stretch : List Str := ["_law_x", "_law_y", "_law_low", "_law_high"]
theorem sc_law_stretch : FnScope N_law_stretch ["_law_x", "_law_y"] (defScope s_law_stretch) := ⟨rfl, rfl, rfl, by decide +kernel, rfl, by decide +kernel, by decide +kernel⟩
theorem ok_law_stretch {f : Addr} {fd : FuncData} (F : Df K mg "_law_stretch" s_law_stretch ["_law_x", "_law_y"] f fd) (B : Free mg BLT) (C_law_number : Cl P w K mg base 1 "_law_number" ["_law_x"] (SpR K R_number)) : Cl P w K mg base 2 "_law_stretch" ["_law_x", "_law_y"] (SpR K R_stretch) := by
  refine F.cl (ok_R (k := 1) F.fn sc_law_stretch (by rintro _ _ ⟨x, y, rfl, rfl⟩; rfl) (fun cdv A outer s H E hr => ⟨_, (pss_cons (ps_set (i := 2) sc_law_stretch.nd rfl (by first | exact .inl rfl | exact .inr rfl) (pe_cl C_law_number hr (by decide) (by rfl) (pa_cons (pv 0) pa_nil)))
    (pss_cons (ps_set (i := 3) sc_law_stretch.nd rfl (by first | exact .inl rfl | exact .inr rfl) (pe_op op_add (pv 2) (pe_ix ix_list (pe_lst (pa_cons pe_int (pa_cons (pe_op op_mod (pe_op op_fdiv (pv 1) pe_int) pe_int) (pa_cons (pe_op op_mod (pe_op op_fdiv (pv 1) pe_int) pe_int) (pa_cons (pe_op op_mod (pe_op op_fdiv (pv 1) pe_int) pe_int) pa_nil))))) (pe_op op_mod (pv 1) pe_int) (fun _ _ => rfl))))
    (pss_one (ps_ret (pe_tup (pa_cons (pv 2) (pa_cons (pe_callB (call_min2 rfl) (by rfl) (B "min" (by decide)) bt_min (pa_cons pe_int (pa_cons (pv 3) pa_nil))) pa_nil))))))), fun G vs ds d Q hR gh rp q => ?_⟩))
  obtain ⟨x, y, rfl, rfl⟩ := hR
  have w := w_start (K := K) (N := N_law_stretch) (n := 2) (dn := [some (.int x), some (.int y), none, none]) gh rp rfl rfl
  refine s_set w (ed_call (ea_cons (ed_var rfl) ea_nil) ⟨_, rfl, rfl⟩) fun v1 H1 w1 => ?_
  refine s_set w1 (ed_add (ed_var rfl) (ed_ixL (ed_lst (ea_cons ed_int (ea_cons (ed_mod (ed_div (ed_var rfl) ed_int (by walk_at "sd")) ed_int (by walk_at "sd")) (ea_cons (ed_mod (ed_div (ed_var rfl) ed_int (by walk_at "sd")) ed_int (by walk_at "sd")) (ea_cons (ed_mod (ed_div (ed_var rfl) ed_int (by walk_at "sd")) ed_int (by walk_at "sd")) ea_nil))))) (ed_mod (ed_var rfl) ed_int (by walk_at "sd")) (at4i (by walk_at "sd")))) fun v2 H2 w2 => ?_
  exact x_ret w2 (ed_is (ed_tup (ea_cons (ed_var rfl) (ea_cons (ed_min2 (ea_cons ed_int (ea_cons (ed_var rfl) ea_nil))) ea_nil))) (by rfl)) q
abbrev s_law_known : Stmt := topS 29
abbrev N_law_known : List Str := ["_law_xs", "_law_names_here", "_law_known_here", "_law_k", "_law_ys"]
theorem sc_law_known : FnScope N_law_known ["_law_xs", "_law_names_here"] (defScope s_law_known) := ⟨rfl, rfl, rfl, by decide +kernel, rfl, by decide +kernel, by decide +kernel⟩
theorem ok_law_known {f : Addr} {fd : FuncData} (F : Df K mg "_law_known" s_law_known ["_law_xs", "_law_names_here"] f fd) (B : Free mg BLT) (C_law_stream : Cl P w K mg base 1 "_law_stream" ["_law_cell", "_law_many"] (SpR K R_stream)) (C_law_stretch : Cl P w K mg base 2 "_law_stretch" ["_law_x", "_law_y"] (SpR K R_stretch)) : Cl P w K mg base 3 "_law_known" ["_law_xs", "_law_names_here"] (SpR K R_known) := by
  refine F.cl (ok_R (k := 2) F.fn sc_law_known (by rintro _ _ ⟨x, ns, rfl, hn, rfl⟩; rfl) (fun cdv A outer s H E hr => ⟨_, (pss_cons (ps_set (i := 2) sc_law_known.nd rfl (by first | exact .inl rfl | exact .inr rfl) pe_dnewK)
    (pss_cons (ps_for PassesOwn.never rfl (pi_range1 (by rfl) (B "range" (by decide)) (pa_cons (pe_callB call_len_seq (by rfl) (B "len" (by decide)) bt_len (pa_cons (pv 1) pa_nil)) pa_nil)) (pg_name (i := 3) sc_law_known.nd rfl (by first | exact Or.inl rfl | exact Or.inr rfl)) (pss_cons (ps_set (i := 4) sc_law_known.nd rfl (by first | exact .inl rfl | exact .inr rfl) (pe_cl C_law_stream hr (by decide) (by rfl) (pa_cons (pe_op op_add (pe_ix ix_list (pv 0) pe_int (fun _ _ => rfl)) (pe_op op_mul pe_int (pv 3))) (pa_cons pe_int pa_nil))))
    (pss_cons (ps_dput (hu_of hr) (pv 2) (pe_ix ix_list (pv 1) (pv 3) (fun _ _ => rfl)) (pe_cl C_law_stretch hr (by decide) (by rfl) (pa_cons (pe_ix ix_list (pv 4) pe_int (fun _ _ => rfl)) (pa_cons (pe_ix ix_list (pv 4) pe_int (fun _ _ => rfl)) pa_nil))) rfl)
    (pss_one (ps_if0 (pt_cmpR op_eq (pe_op op_mod (pe_op op_fdiv (pe_ix ix_list (pv 4) pe_int (fun _ _ => rfl)) pe_int) pe_int) pe_int (nomark _)) (pss_one (ps_dput (hu_of hr) (pv 2) (pe_ix ix_list (pv 1) (pv 3) (fun _ _ => rfl)) (pe_dget (hu_of hr) (pv 2) (pe_ix ix_list (pv 1) pe_int (fun _ _ => rfl)) (fun _ _ => rfl)) rfl)))))))
    (pss_one (ps_ret (pv 2))))), fun G vs ds d Q hR gh rp q => ?_⟩))
  obtain ⟨x, ns, rfl, hn, rfl⟩ := hR
  have w := w_start (K := K) (N := N_law_known) (n := 3) (dn := [some (.lst [.int x]), some (.lst (ns.map .str)), none, none, none]) gh rp rfl rfl
  refine s_own w en_dnew fun b G1 H1 w1 => ?_
  refine s_forR1 w1 (ea_cons (ed_lenL (ea_cons (ed_var rfl) ea_nil)) ea_nil) (by rw [List.length_map]; omega) (fun i ow dn => ow = [(b, .dct (knownF x ns i))] ∧ dn = [some (.lst [.int x]), some (.lst (ns.map .str)), some (.adr b), none, none]) ⟨_, ⟨rfl, rfl⟩, Le.refl _⟩ (fun i ow' dn' σ' G' H' v hi p w' => ?_) (fun ow' dn' σ' G' H' p w' => ?_)
  · obtain ⟨rfl, rfl⟩ := p
    rw [List.length_map] at hi
    have hi' : i < ns.length := by omega
    have hlen := knownF_len x ns i
    refine s_set w' (ed_is (ed_call (ea_cons (ed_add (ed_ixL (ed_var rfl) ed_int rfl) (ed_mul ed_int (ed_var rfl) (by walk_at "sd"))) (ea_cons ed_int ea_nil)) ⟨_, _, rfl, (by walk_at "sd"), rfl⟩) (e := .lst [.int (sqF (x + 7 * (i : Int)) 2), .int (sqF (x + 7 * (i : Int)) 3)]) (by rfl)) fun v2 H2 w2 => ?_
    refine s_dput (j := 0) (k := .inr (ns.getD i "")) w2 rfl (ed_var rfl) (ed_ixL (ed_var rfl) (ed_var rfl) (at_strs' (by omega))) (ed_call (ea_cons (ed_ixL (ed_var rfl) ed_int rfl) (ea_cons (ed_ixL (ed_var rfl) ed_int rfl) ea_nil)) ⟨_, _, rfl, rfl⟩) (by omega) fun G3 H3 w3 => ?_
    have hk1 := knownF_1 x (knownF_ok x i (by omega)) hi'
    have hput := putD_len (knownF x ns i) (.inr (ns.getD i "")) (dS (some (strF (sqF (x + 7 * (i : Int)) 2) (sqF (x + 7 * (i : Int)) 3))))
    have es := knownF_step x ns i rfl
    have w3 := w3.ow_is (ow' := [(b, .dct (putD (knownF x ns i) (.inr (ns.getD i "")) (dS (some (strF (sqF (x + 7 * (i : Int)) 2) (sqF (x + 7 * (i : Int)) 3))))))]) (by rfl)
    generalize putD (knownF x ns i) (.inr (ns.getD i "")) (dS (some (strF (sqF (x + 7 * (i : Int)) 2) (sqF (x + 7 * (i : Int)) 3)))) = ds1 at *
    have hv := (hk1.get (head_in hi')).1
    refine x_if0 w3 (et_test (ed_eq (ed_mod (ed_div (ed_ixL (ed_var rfl) ed_int rfl) ed_int (by walk_at "sd")) ed_int (by walk_at "sd")) ed_int)) (fun hb H4 w4 => ?_) (fun hb H4 w4 => ?_)
    · refine x_dput (j := 0) (k := .inr (ns.getD i "")) w4 rfl (ed_var rfl) (ed_ixL (ed_var rfl) (ed_var rfl) (at_strs' (by omega))) (ed_oget (j := 0) (k := .inr (ns.getD 0 "")) rfl (ed_var rfl) (ed_ixL (ed_var rfl) ed_int (at_strs' (by omega))) hv) (by omega) fun G5 H5 w5 => ?_
      refine At.mk w5 ⟨?_, rfl⟩ (by walk_at "le")
      rw [es, if_pos (of_decide_eq_true hb)]
      rfl
    · refine At.mk w4 ⟨?_, rfl⟩ (by walk_at "le")
      rw [es, if_neg (of_decide_eq_false hb)]
  · obtain ⟨rfl, rfl⟩ := p
    have w3 := w'.frozen (j := 0) (i := 2) rfl rfl (by simp [fr0])
    rw [List.length_map] at w3
    exact x_ret w3 (ed_var rfl) q
abbrev s_law_one_of : Stmt := topS 30
abbrev N_law_one_of : List Str := ["_law_stretch_here", "_law_x"]
theorem sc_law_one_of : FnScope N_law_one_of ["_law_stretch_here", "_law_x"] (defScope s_law_one_of) := ⟨rfl, rfl, rfl, by decide +kernel, rfl, by decide +kernel, by decide +kernel⟩
theorem ok_law_one_of {f : Addr} {fd : FuncData} (F : Df K mg "_law_one_of" s_law_one_of ["_law_stretch_here", "_law_x"] f fd) : Cl P w K mg base 1 "_law_one_of" ["_law_stretch_here", "_law_x"] (SpR K R_one_of) := by
  refine F.cl (ok_R (k := 0) F.fn sc_law_one_of (by rintro _ _ ⟨p, x, rfl, hp, rfl⟩; rfl) (fun cdv A outer s H E hr => ⟨_, (pss_cons (ps_if0 (pt_cmpR op_lt (pe_op op_mod (pv 1) pe_int) pe_int (nomark _)) (pss_one (ps_ret (pe_ix ix_tup (pv 0) (pe_op op_mod (pv 1) pe_int) (fun _ _ => rfl)))))
    (pss_one (ps_ret (pe_op op_add (pe_ix ix_tup (pv 0) pe_int (fun _ _ => rfl)) (pe_op op_mod (pe_op op_fdiv (pv 1) pe_int) (pe_op op_add (pe_op op_sub (pe_ix ix_tup (pv 0) pe_int (fun _ _ => rfl)) (pe_ix ix_tup (pv 0) pe_int (fun _ _ => rfl))) pe_int)))))), fun G vs ds d Q hR gh rp q => ?_⟩))
  obtain ⟨p, x, rfl, hp, rfl⟩ := hR
  have w := w_start (K := K) (N := N_law_one_of) (n := 0) (dn := [some (dS (some p)), some (.int x)]) gh rp rfl rfl
  refine s_if0 w (et_test (ed_lt (ed_mod (ed_var rfl) ed_int (by walk_at "sd")) ed_int)) (fun hb H1 w1 => ?_) (fun hb H1 w1 => ?_)
  · exact x_ret w1 (ed_is (ed_ixT (ed_var rfl) (ed_mod (ed_var rfl) ed_int (by walk_at "sd")) (at2i ⟨Int.emod_nonneg x (by decide), of_decide_eq_true hb⟩)) (by rw [oneF, if_pos (of_decide_eq_true hb)])) q
  · have hm : 0 < p.2 - p.1 + 1 := by omega
    exact x_ret w1 (ed_is (ed_add (ed_ixT (ed_var rfl) ed_int rfl) (ed_mod (ed_div (ed_var rfl) ed_int (by walk_at "sd")) (ed_add (ed_sub (ed_ixT (ed_var rfl) ed_int rfl) (ed_ixT (ed_var rfl) ed_int rfl)) ed_int) (by walk_at "sd"))) (by rw [oneF, if_neg (of_decide_eq_false hb)])) q
abbrev s_law_held : Stmt := topS 31
abbrev N_law_held : List Str := ["_law_known_here", "_law_x", "_law_held_here", "_law_name"]
theorem sc_law_held : FnScope N_law_held ["_law_known_here", "_law_x"] (defScope s_law_held) := ⟨rfl, rfl, rfl, by decide +kernel, rfl, by decide +kernel, by decide +kernel⟩
theorem ok_law_held {f : Addr} {fd : FuncData} (F : Df K mg "_law_held" s_law_held ["_law_known_here", "_law_x"] f fd) (C_law_one_of : Cl P w K mg base 1 "_law_one_of" ["_law_stretch_here", "_law_x"] (SpR K R_one_of)) : Cl P w K mg base 2 "_law_held" ["_law_known_here", "_law_x"] (SpR K R_held) := by
  refine F.cl (ok_R (k := 1) F.fn sc_law_held (by rintro _ _ ⟨ks, ns, x, rfl, hk, hl, hx, rfl⟩; rfl) (fun cdv A outer s H E hr => ⟨_, (pss_cons (ps_set (i := 2) sc_law_held.nd rfl (by first | exact .inl rfl | exact .inr rfl) pe_dnewK)
    (pss_cons (ps_forD (ps_for PassesOwn.never rfl (pi_keys (pv 0)) (pg_name (i := 3) sc_law_held.nd rfl (by first | exact Or.inl rfl | exact Or.inr rfl)) (pss_cons (ps_set (i := 1) sc_law_held.nd rfl (by first | exact .inl rfl | exact .inr rfl) (pe_op op_mod (pe_op op_add (pe_op op_add (pe_op op_mul (pv 1) (pv 1)) (pe_op op_mul pe_int (pv 1))) pe_int) pe_int))
    (pss_one (ps_dput (hu_of hr) (pv 2) (pv 3) (pe_cl C_law_one_of hr (by decide) (by rfl) (pa_cons (pe_dget (hu_of hr) (pv 0) (pv 3) (fun _ _ => rfl)) (pa_cons (pv 1) pa_nil))) rfl)))))
    (pss_one (ps_ret (pv 2))))), fun G vs ds d Q hR gh rp q => ?_⟩))
  obtain ⟨ks, ns, x, rfl, hk, hl, hx, rfl⟩ := hR
  have w := w_start (K := K) (N := N_law_held) (n := 2) (dn := [some (.dct ks), some (.int x), none, none]) gh rp rfl rfl
  refine s_own w en_dnew fun b G1 H1 w1 => ?_
  refine s_forD w1 (j := 0) rfl (fun i ow dn => ow = [(b, .dct (heldF ks x i).2)] ∧ dn = [some (.dct ks), some (.int (heldF ks x i).1), some (.adr b), none]) ⟨_, ⟨rfl, rfl⟩, Le.refl _⟩ (fun F1 D1 i k d ow' dn' σ' G' H' v hR he p w' => ?_) (fun ow' dn' σ' G' H' p w' => ?_)
  · obtain ⟨rfl, rfl⟩ := p
    have hmem := List.mem_of_getElem? he
    have hil : i < ks.length := (List.getElem?_eq_some_iff.mp he).1
    obtain ⟨s, pp, e, hp, hs⟩ := hk.keys _ hmem
    cases e
    have hv := val_mem ks hk.nd _ _ hmem
    have hpp := hp.2.1
    have hxi := heldF_x ks hx i
    have hli := (heldF_ok hk x i (by omega)).2.2.1
    have es := heldF_step ks x he
    refine s_set w' (ed_is (ed_mod (ed_add (ed_add (ed_mul (ed_var rfl) (ed_var rfl) (by walk_at "sd")) (ed_mul ed_int (ed_var rfl) (by walk_at "sd"))) ed_int) ed_int (by walk_at "sd")) (e := .int (nextF (heldF ks x i).1)) (by rfl)) fun v2 H2 w2 => ?_
    refine x_dput (j := 0) (k := .inr s) w2 rfl (ed_var rfl) (ed_var rfl) (ed_call (ea_cons (ed_dget (k := .inr _) (ed_var rfl) (ed_var rfl) hv) (ea_cons (ed_var rfl) ea_nil)) ⟨_, _, rfl, by assumption, rfl⟩) (by omega) fun G3 H3 w3 => ?_
    refine At.mk (dn' := [some (.dct ks), some (.int (nextF (heldF ks x i).1)), some (.adr b), none]) w3 ⟨by rw [es]; rfl, by rw [es]⟩ (by walk_at "le")
  · obtain ⟨rfl, rfl⟩ := p
    have w3 := w'.frozen (j := 0) (i := 2) rfl rfl (by simp [fr0])
    exact x_ret w3 (ed_var rfl) q
abbrev s_law_cut : Stmt := topS 32
abbrev N_law_cut : List Str := ["_law_low", "_law_high"]
theorem sc_law_cut : FnScope N_law_cut ["_law_low", "_law_high"] (defScope s_law_cut) := ⟨rfl, rfl, rfl, by decide +kernel, rfl, by decide +kernel, by decide +kernel⟩
theorem ok_law_cut {f : Addr} {fd : FuncData} (F : Df K mg "_law_cut" s_law_cut ["_law_low", "_law_high"] f fd) (B : Free mg BLT) : Cl P w K mg base 1 "_law_cut" ["_law_low", "_law_high"] (SpR K R_cut) := by
  refine F.cl (ok_R (k := 0) F.fn sc_law_cut (by rintro _ _ ⟨a, b, rfl, rfl⟩; rfl) (fun cdv A outer s H E hr => ⟨_, (pss_cons (ps_if0 ((pw_or (pt_cmpR op_lt (pv 1) (pe_un un_neg pe_int) (nomark _)) (pw_or1 (pt_cmpR op_gt (pv 0) pe_int (nomark _))))).pt (pss_one (ps_ret pe_non)))
    (pss_one (ps_ret (pe_tup (pa_cons (pe_callB (call_max2 rfl) (by rfl) (B "max" (by decide)) bt_max (pa_cons (pv 0) (pa_cons (pe_un un_neg pe_int) pa_nil))) (pa_cons (pe_callB (call_min2 rfl) (by rfl) (B "min" (by decide)) bt_min (pa_cons (pv 1) (pa_cons pe_int pa_nil))) pa_nil)))))), fun G vs ds d Q hR gh rp q => ?_⟩))
  obtain ⟨a, b, rfl, rfl⟩ := hR
  have w := w_start (K := K) (N := N_law_cut) (n := 0) (dn := [some (.int a), some (.int b)]) gh rp rfl rfl
  refine s_if0 w (et_or (et_test (ed_lt (ed_var rfl) (ed_neg ed_int))) fun hb => (et_test (ed_gt (ed_var rfl) ed_int))) (fun hb H1 w1 => ?_) (fun hb H1 w1 => ?_)
  · have h : a > 1000000 ∨ b < -1000000 := by have := (by simpa using hb : b < -1000000 ∨ 1000000 < a); omega
    exact x_ret w1 (ed_is ed_non (by rw [cutF, if_pos h]; rfl)) q
  · have h : ¬ (a > 1000000 ∨ b < -1000000) := by
      rw [Bool.or_eq_false_iff, decide_eq_false_iff_not, decide_eq_false_iff_not] at hb
      omega
    exact x_ret w1 (ed_is (ed_tup (ea_cons (ed_max2 (ea_cons (ed_var rfl) (ea_cons (ed_neg ed_int) ea_nil))) (ea_cons (ed_min2 (ea_cons (ed_var rfl) (ea_cons ed_int ea_nil))) ea_nil))) (by rw [cutF, if_neg h]; rfl)) q
abbrev s_law_reach : Stmt := topS 33
abbrev N_law_reach : List Str := ["_law_part", "_law_known_here", "_law_one", "_law_other", "_law_by", "_law_four", "_law_x", "_law_y"]
theorem sc_law_reach : FnScope N_law_reach ["_law_part", "_law_known_here"] (defScope s_law_reach) := ⟨rfl, rfl, rfl, by decide +kernel, rfl, by decide +kernel, by decide +kernel⟩
theorem ok_law_reach {n : Nat} {f : Addr} {fd : FuncData} (F : Df K mg "_law_reach" s_law_reach ["_law_part", "_law_known_here"] f fd) (B : Free mg BLT) (C_law_reach : Cl P w K mg base (1 + n) "_law_reach" ["_law_part", "_law_known_here"] (SpR K (R_reach n))) (C_law_cut : Cl P w K mg base 1 "_law_cut" ["_law_low", "_law_high"] (SpR K R_cut)) : Cl P w K mg base (1 + (n + 1)) "_law_reach" ["_law_part", "_law_known_here"] (SpR K (R_reach (n + 1))) := by
  refine F.cl (ok_R (k := (1 + n)) F.fn sc_law_reach (by rintro _ _ ⟨e, ds, ns, rfl, ho, hh, hd, rfl⟩; rfl) (fun cdv A outer s H E hr => ⟨_, (pss_cons (ps_if0 (pt_val (pe_callB call_isi (by rfl) (B "isinstance" (by decide)) bt_isinstance (pa_cons (pv 0) (pa_cons (pe_ty (by rfl) (B "str" (by decide)) bt_str) pa_nil)))) (pss_one (ps_ret (pe_dget (hu_of hr) (pv 1) (pv 0) (fun _ _ => rfl)))))
    (pss_cons (ps_if0 (pt_not (pt_val (pe_callB call_isi (by rfl) (B "isinstance" (by decide)) bt_isinstance (pa_cons (pv 0) (pa_cons (pe_ty (by rfl) (B "tuple" (by decide)) bt_tuple) pa_nil))))) (pss_one (ps_ret (pe_tup (pa_cons (pv 0) (pa_cons (pv 0) pa_nil))))))
    (pss_cons (ps_set (i := 2) sc_law_reach.nd rfl (by first | exact .inl rfl | exact .inr rfl) (pe_cl C_law_reach hr (by omega) (by rfl) (pa_cons (pe_ix ix_tup (pv 0) pe_int (fun _ _ => rfl)) (pa_cons (pv 1) pa_nil))))
    (pss_cons (ps_set (i := 3) sc_law_reach.nd rfl (by first | exact .inl rfl | exact .inr rfl) (pe_cl C_law_reach hr (by omega) (by rfl) (pa_cons (pe_ix ix_tup (pv 0) pe_int (fun _ _ => rfl)) (pa_cons (pv 1) pa_nil))))
    (pss_cons (ps_if0 ((pw_or (pt_cmpR op_isN (pv 2) pe_non (nomark _)) (pw_or1 (pt_cmpR op_isN (pv 3) pe_non (nomark _))))).pt (pss_one (ps_ret pe_non)))
    (pss_cons (ps_if0 (pt_cmpR op_eq (pe_ix ix_tup (pv 0) pe_int (fun _ _ => rfl)) pe_str (nomark _)) (pss_cons (ps_set (i := 4) sc_law_reach.nd rfl (by first | exact .inl rfl | exact .inr rfl) (pe_ix ix_tup (pv 0) pe_int (fun _ _ => rfl)))
    (pss_cons (ps_if0 (pt_cmpR op_gt (pe_op op_fdiv (pe_ix ix_tup (pv 2) pe_int (fun _ _ => rfl)) (pv 4)) (pe_op op_fdiv (pe_ix ix_tup (pv 2) pe_int (fun _ _ => rfl)) (pv 4)) (nomark _)) (pss_one (ps_ret (pe_tup (pa_cons pe_int (pa_cons (pe_op op_sub (pv 4) pe_int) pa_nil))))))
    (pss_one (ps_ret (pe_tup (pa_cons (pe_op op_sub (pe_ix ix_tup (pv 2) pe_int (fun _ _ => rfl)) (pe_op op_mul (pe_op op_fdiv (pe_ix ix_tup (pv 2) pe_int (fun _ _ => rfl)) (pv 4)) (pv 4))) (pa_cons (pe_op op_sub (pe_ix ix_tup (pv 2) pe_int (fun _ _ => rfl)) (pe_op op_mul (pe_op op_fdiv (pe_ix ix_tup (pv 2) pe_int (fun _ _ => rfl)) (pv 4)) (pv 4))) pa_nil))))))))
    (pss_cons (ps_if0 (pt_cmpR op_eq (pe_ix ix_tup (pv 0) pe_int (fun _ _ => rfl)) pe_str (nomark _)) (pss_one (ps_ret (pe_cl C_law_cut hr (by omega) (by rfl) (pa_cons (pe_op op_add (pe_ix ix_tup (pv 2) pe_int (fun _ _ => rfl)) (pe_ix ix_tup (pv 3) pe_int (fun _ _ => rfl))) (pa_cons (pe_op op_add (pe_ix ix_tup (pv 2) pe_int (fun _ _ => rfl)) (pe_ix ix_tup (pv 3) pe_int (fun _ _ => rfl))) pa_nil))))))
    (pss_cons (ps_if0 (pt_cmpR op_eq (pe_ix ix_tup (pv 0) pe_int (fun _ _ => rfl)) pe_str (nomark _)) (pss_one (ps_ret (pe_cl C_law_cut hr (by omega) (by rfl) (pa_cons (pe_op op_sub (pe_ix ix_tup (pv 2) pe_int (fun _ _ => rfl)) (pe_ix ix_tup (pv 3) pe_int (fun _ _ => rfl))) (pa_cons (pe_op op_sub (pe_ix ix_tup (pv 2) pe_int (fun _ _ => rfl)) (pe_ix ix_tup (pv 3) pe_int (fun _ _ => rfl))) pa_nil))))))
    (pss_cons (ps_set (i := 5) sc_law_reach.nd rfl (by first | exact .inl rfl | exact .inr rfl) (pe_callB cr_sortedI (by rfl) (B "sorted" (by decide)) bt_sorted (pa_cons (pe_lc (own := [("_law_x", 6), ("_law_y", 7)]) (g := gTup K 2 (gCons (gName 6) (gCons (gName 7) gNil))) rfl sc_law_reach.nd (RZ.pi_zipA (by rfl) (B "zip" (by decide)) (pa_cons (pe_op op_catT (pv 2) (pv 2)) (pa_cons (pe_op op_catT (pv 3) (pe_tup (pa_cons (pe_ix ix_tup (pv 3) pe_int (fun _ _ => rfl)) (pa_cons (pe_ix ix_tup (pv 3) pe_int (fun _ _ => rfl)) pa_nil)))) pa_nil))) (blkOk_by (own := [("_law_x", 6), ("_law_y", 7)]) (N := N_law_reach) (sc := defScope s_law_reach) (by decide +kernel)) (fun _ _ _ _ _ => (pg_tup rfl (pgs_cons (pg_name (i := 6) sc_law_reach.nd rfl (by first | exact Or.inl rfl | exact Or.inr rfl)) (pgs_cons (pg_name (i := 7) sc_law_reach.nd rfl (by first | exact Or.inl rfl | exact Or.inr rfl)) pgs_nil)))) (fun _ _ _ _ _ => pts_nil) (fun _ _ _ _ _ => (pe_op op_mul (pv 6) (pv 7)))) pa_nil)))
    (pss_one (ps_ret (pe_cl C_law_cut hr (by omega) (by rfl) (pa_cons (pe_ix ix_list (pv 5) pe_int (fun _ _ => rfl)) (pa_cons (pe_ix ix_list (pv 5) pe_int (fun _ _ => rfl)) pa_nil)))))))))))))), fun G vs ds d Q hR gh rp q => ?_⟩))
  obtain ⟨e, ds, ns, rfl, ho, hh, hd, rfl⟩ := hR
  have w := w_start (K := K) (N := N_law_reach) (n := 6) (dn := [some (e.dt), some (.dct ds), none, none, none, none, none, none]) gh rp rfl rfl
  rcases e with i | s | ⟨o, l, r⟩
  · refine s_if0F w (et_B (ed_isi (ea_cons (ed_var rfl) (ea_cons ed_ty ea_nil)) (by walk_at "sd"))) (by rfl) fun H1 w1 => ?_
    refine s_if0T w1 (et_not (et_B (ed_isi (ea_cons (ed_var rfl) (ea_cons ed_ty ea_nil)) (by walk_at "sd")))) (by rfl) fun H2 w2 => ?_
    exact x_ret w2 (ed_is (ed_tup (ea_cons (ed_var rfl) (ea_cons (ed_var rfl) ea_nil))) (by rfl)) q
  · refine s_if0T w (et_B (ed_isi (ea_cons (ed_var rfl) (ea_cons ed_ty ea_nil)) (by walk_at "sd"))) (by rfl) fun H1 w1 => ?_
    exact x_ret w1 (ed_is (ed_dget (k := .inr s) (ed_var rfl) (ed_var rfl) (hh.get ho).1) (by rfl)) q
  have hd' : max l.deep r.deep + 1 ≤ n + 1 := hd
  refine s_if0F w (et_B (ed_isi (ea_cons (ed_var rfl) (ea_cons ed_ty ea_nil)) (by walk_at "sd"))) (by rfl) fun H1 w1 => ?_
  refine s_if0F w1 (et_not (et_B (ed_isi (ea_cons (ed_var rfl) (ea_cons ed_ty ea_nil)) (by walk_at "sd")))) (by rfl) fun H2 w2 => ?_
  refine s_set w2 (ed_call (ea_cons (ed_ixT (ed_var rfl) ed_int rfl) (ea_cons (ed_var rfl) ea_nil)) ⟨_, _, _, rfl, by first | exact ho.1 | exact ho.2.1, hh, by omega, rfl⟩) fun v3 H3 w3 => ?_
  have ew := reach_op ds o l r
  have hla : ∀ a, reachF ds l = some a → Rng a := fun a k => reach_rng hh ho.1 k
  have hlb : ∀ b, reachF ds r = some b → Rng b := fun b k => reach_rng hh ho.2.1 k
  
  refine s_set w3 (ed_call (ea_cons (ed_ixT (ed_var rfl) ed_int rfl) (ea_cons (ed_var rfl) ea_nil)) ⟨_, _, _, rfl, by first | exact ho.1 | exact ho.2.1, hh, by omega, rfl⟩) fun v4 H4 w4 => ?_
  generalize reachF ds l = xa at *
  generalize hxb : reachF ds r = xb at *
  rcases xa with _ | a
  · refine s_if0T w4 (et_or (et_test (ed_isN (ed_var rfl) ed_non)) fun hb => (et_test (ed_isN (ed_var rfl) ed_non))) (by rfl) fun H5 w5 => ?_
    exact x_ret w5 (ed_is ed_non (congrArg dS ew.symm)) q
  rcases xb with _ | b
  · refine s_if0T w4 (et_or (et_test (ed_isN (ed_var rfl) ed_non)) fun hb => (et_test (ed_isN (ed_var rfl) ed_non))) (by rfl) fun H5 w5 => ?_
    exact x_ret w5 (ed_is ed_non (congrArg dS ew.symm)) q
  refine s_if0F w4 (et_or (et_test (ed_isN (ed_var rfl) ed_non)) fun hb => (et_test (ed_isN (ed_var rfl) ed_non))) (by rfl) fun H5 w5 => ?_
  have ha := hla a rfl
  have hb := hlb b rfl
  have ew : reachF ds (.op o l r) = (if o = "rest" then some (restF a b.1) else opR o a b) := ew
  obtain ⟨ha1, ha2, ha3⟩ := id ha
  obtain ⟨hb1, hb2, hb3⟩ := id hb
  refine s_if0 w5 (et_test (ed_eqS (ed_ixT (ed_var rfl) ed_int rfl) ed_str)) (fun hc H6 w6 => ?_) (fun hc H6 w6 => ?_)
  · have he := of_decide_eq_true hc
    rw [if_pos he] at ew
    obtain ⟨m, rfl, hm1, hm2⟩ := rest_num ho he
    have hbm : b.1 = m := by
      have k := hxb
      have k : (m, m) = b := Option.some.inj k
      rw [← k]
    rw [hbm] at ew
    refine s_set w6 (ed_is (ed_ixT (ed_var rfl) ed_int rfl) (e := .int m) (by rfl)) fun v7 H7 w7 => ?_
    have hmono := Int.ediv_le_ediv (show 0 < m by omega) ha2
    refine s_if0 w7 (et_test (ed_gt (ed_div (ed_ixT (ed_var rfl) ed_int rfl) (ed_var rfl) (by walk_at "sd")) (ed_div (ed_ixT (ed_var rfl) ed_int rfl) (ed_var rfl) (by walk_at "sd")))) (fun hk H8 w8 => ?_) (fun hk H8 w8 => ?_)
    · have hk := of_decide_eq_true hk
      exact x_ret w8 (ed_is (ed_tup (ea_cons ed_int (ea_cons (ed_sub (ed_var rfl) ed_int) ea_nil))) (by rw [ew, restF, if_neg (by omega)]; rfl)) q
    · have hk := of_decide_eq_false hk
      have hk2 : a.1 / m = a.2 / m := by omega
      exact x_ret w8 (ed_is (ed_tup (ea_cons (ed_sub (ed_ixT (ed_var rfl) ed_int rfl) (ed_mul (ed_div (ed_ixT (ed_var rfl) ed_int rfl) (ed_var rfl) (by walk_at "sd")) (ed_var rfl) (by walk_at "sd"))) (ea_cons (ed_sub (ed_ixT (ed_var rfl) ed_int rfl) (ed_mul (ed_div (ed_ixT (ed_var rfl) ed_int rfl) (ed_var rfl) (by walk_at "sd")) (ed_var rfl) (by walk_at "sd"))) ea_nil))) (by rw [ew, restF, if_pos hk2, Int.emod_def, Int.emod_def, ← hk2, Int.mul_comm m]; rfl)) q
  have hne := of_decide_eq_false hc
  rw [if_neg hne] at ew
  refine s_if0 w6 (et_test (ed_eqS (ed_ixT (ed_var rfl) ed_int rfl) ed_str)) (fun h1 H9 w9 => ?_) (fun h1 H9 w9 => ?_)
  · exact x_ret w9 (ed_is (ed_call (ea_cons (ed_add (ed_ixT (ed_var rfl) ed_int rfl) (ed_ixT (ed_var rfl) ed_int rfl)) (ea_cons (ed_add (ed_ixT (ed_var rfl) ed_int rfl) (ed_ixT (ed_var rfl) ed_int rfl)) ea_nil)) ⟨_, _, rfl, rfl⟩) (by rw [ew, opR, if_pos (of_decide_eq_true h1)]; rfl)) q
  have h1 := of_decide_eq_false h1
  refine s_if0 w9 (et_test (ed_eqS (ed_ixT (ed_var rfl) ed_int rfl) ed_str)) (fun h2 H10 w10 => ?_) (fun h2 H10 w10 => ?_)
  · exact x_ret w10 (ed_is (ed_call (ea_cons (ed_sub (ed_ixT (ed_var rfl) ed_int rfl) (ed_ixT (ed_var rfl) ed_int rfl)) (ea_cons (ed_sub (ed_ixT (ed_var rfl) ed_int rfl) (ed_ixT (ed_var rfl) ed_int rfl)) ea_nil)) ⟨_, _, rfl, rfl⟩) (by rw [ew, opR, if_neg h1, if_pos (of_decide_eq_true h2)]; rfl)) q
  obtain ⟨f0, f1, f2, f3, ef, e0, e3⟩ := four_ends a b
  refine s_set w10 (ed_is (d := .lst ((srtI [a.1 * b.1, a.2 * b.2, a.1 * b.2, a.2 * b.1]).map .int)) (en_sortI (ns := [a.1 * b.1, a.2 * b.2, a.1 * b.2, a.2 * b.1]) (ea_cons (ed_is (en_lcZ (f := fun m => Dt.int (([a.1 * b.1, a.2 * b.2, a.1 * b.2, a.2 * b.1] : List Int).getD m 0)) (ea_cons (ed_catT (ed_var rfl) (ed_var rfl)) (ea_cons (ed_catT (ed_var rfl) (ed_tup (ea_cons (ed_ixT (ed_var rfl) ed_int rfl) (ea_cons (ed_ixT (ed_var rfl) ed_int rfl) ea_nil)))) ea_nil)) (by decide) (by rfl) (Nat.le_of_ble_eq_true rfl) (fun m dx dy hx hy => by
      match m, hx, hy with
      | 0, hx, hy => cases hx; cases hy; exact ed_mul (ed_var rfl) (ed_var rfl) (by walk_at "sd")
      | 1, hx, hy => cases hx; cases hy; exact ed_mul (ed_var rfl) (ed_var rfl) (by walk_at "sd")
      | 2, hx, hy => cases hx; cases hy; exact ed_mul (ed_var rfl) (ed_var rfl) (by walk_at "sd")
      | 3, hx, hy => cases hx; cases hy; exact ed_mul (ed_var rfl) (ed_var rfl) (by walk_at "sd")
      | m + 4, hx, hy => cases hx)).ed (by rfl)) ea_nil)).ed (e := .lst [.int f0, .int f1, .int f2, .int f3]) (by rw [ef]; rfl)) fun v11 H11 w11 => ?_
  exact x_ret w11 (ed_is (ed_call (ea_cons (ed_ixL (ed_var rfl) ed_int rfl) (ea_cons (ed_ixL (ed_var rfl) ed_int rfl) ea_nil)) ⟨_, _, rfl, rfl⟩) (by rw [ew, opR, if_neg h1, if_neg (of_decide_eq_false h2), e0, e3]; rfl)) q
theorem all_law_reach {f : Addr} {fd : FuncData} (F : Df K mg "_law_reach" s_law_reach ["_law_part", "_law_known_here"] f fd) (B : Free mg BLT) (C_law_cut : Cl P w K mg base 1 "_law_cut" ["_law_low", "_law_high"] (SpR K R_cut)) : ∀ n : Nat, Cl P w K mg base (1 + n) "_law_reach" ["_law_part", "_law_known_here"] (SpR K (R_reach n))
  | 0 => F.cl ⟨fun vs H Q E ⟨_, _, _, _, _, hR, _⟩ => absurd hR reach_0, fun A outer s H args us vs Q E _ _ _ _ ⟨_, _, _, _, _, hR, _⟩ => absurd hR reach_0⟩
  | n + 1 => ok_law_reach F B (all_law_reach F B C_law_cut n) C_law_cut
abbrev s_law_met : Stmt := topS 34
abbrev N_law_met : List Str := ["_law_one", "_law_low", "_law_high"]
theorem sc_law_met : FnScope N_law_met ["_law_one", "_law_low", "_law_high"] (defScope s_law_met) := ⟨rfl, rfl, rfl, by decide +kernel, rfl, by decide +kernel, by decide +kernel⟩
theorem ok_law_met {f : Addr} {fd : FuncData} (F : Df K mg "_law_met" s_law_met ["_law_one", "_law_low", "_law_high"] f fd) (B : Free mg BLT) : Cl P w K mg base 1 "_law_met" ["_law_one", "_law_low", "_law_high"] (SpR K R_lmet) := by
  refine F.cl (ok_R (k := 0) F.fn sc_law_met (by rintro _ _ ⟨a, lo, hi, rfl, rfl⟩; rfl) (fun cdv A outer s H E hr => ⟨_, (pss_cons (ps_if0 ((pw_or (pt_cmpR op_isN (pv 0) pe_non (nomark _)) (pw_or1 (pt_cmpR op_gt (pe_callB (call_max2 rfl) (by rfl) (B "max" (by decide)) bt_max (pa_cons (pe_ix ix_tup (pv 0) pe_int (fun _ _ => rfl)) (pa_cons (pv 1) pa_nil))) (pe_callB (call_min2 rfl) (by rfl) (B "min" (by decide)) bt_min (pa_cons (pe_ix ix_tup (pv 0) pe_int (fun _ _ => rfl)) (pa_cons (pv 2) pa_nil))) (nomark _))))).pt (pss_one (ps_ret pe_non)))
    (pss_one (ps_ret (pe_tup (pa_cons (pe_callB (call_max2 rfl) (by rfl) (B "max" (by decide)) bt_max (pa_cons (pe_ix ix_tup (pv 0) pe_int (fun _ _ => rfl)) (pa_cons (pv 1) pa_nil))) (pa_cons (pe_callB (call_min2 rfl) (by rfl) (B "min" (by decide)) bt_min (pa_cons (pe_ix ix_tup (pv 0) pe_int (fun _ _ => rfl)) (pa_cons (pv 2) pa_nil))) pa_nil)))))), fun G vs ds d Q hR gh rp q => ?_⟩))
  obtain ⟨a, lo, hi, rfl, rfl⟩ := hR
  have w := w_start (K := K) (N := N_law_met) (n := 0) (dn := [some (dS (some a)), some (.int lo), some (.int hi)]) gh rp rfl rfl
  refine s_if0 w (et_or (et_test (ed_isN (ed_var rfl) ed_non)) fun hb => (et_test (ed_gt (ed_max2 (ea_cons (ed_ixT (ed_var rfl) ed_int rfl) (ea_cons (ed_var rfl) ea_nil))) (ed_min2 (ea_cons (ed_ixT (ed_var rfl) ed_int rfl) (ea_cons (ed_var rfl) ea_nil)))))) (fun hb H1 w1 => ?_) (fun hb H1 w1 => ?_)
  · have h : max a.1 lo > min a.2 hi := of_decide_eq_true hb
    exact x_ret w1 (ed_is ed_non (by show Dt.non = dS (if max a.1 lo > min a.2 hi then none else _); rw [if_pos h]; rfl)) q
  · have h : ¬ max a.1 lo > min a.2 hi := of_decide_eq_false hb
    exact x_ret w1 (ed_is (ed_tup (ea_cons (ed_max2 (ea_cons (ed_ixT (ed_var rfl) ed_int rfl) (ea_cons (ed_var rfl) ea_nil))) (ea_cons (ed_min2 (ea_cons (ed_ixT (ed_var rfl) ed_int rfl) (ea_cons (ed_var rfl) ea_nil))) ea_nil))) (by show _ = dS (if max a.1 lo > min a.2 hi then none else _); rw [if_neg h]; rfl)) q
abbrev s_law_side : Stmt := topS 35
abbrev N_law_side : List Str := ["_law_sign", "_law_own", "_law_other", "_law_first", "_law_step"]
theorem sc_law_side : FnScope N_law_side ["_law_sign", "_law_own", "_law_other", "_law_first"] (defScope s_law_side) := ⟨rfl, rfl, rfl, by decide +kernel, rfl, by decide +kernel, by decide +kernel⟩
theorem ok_law_side {f : Addr} {fd : FuncData} (F : Df K mg "_law_side" s_law_side ["_law_sign", "_law_own", "_law_other", "_law_first"] f fd) (B : Free mg BLT) (C_law_met : Cl P w K mg base 1 "_law_met" ["_law_one", "_law_low", "_law_high"] (SpR K R_lmet)) : Cl P w K mg base 2 "_law_side" ["_law_sign", "_law_own", "_law_other", "_law_first"] (SpR K R_lside) := by
  refine F.cl (ok_R (k := 1) F.fn sc_law_side (by rintro _ _ ⟨o, a, b, f, rfl, ho, ha, rfl⟩; rfl) (fun cdv A outer s H E hr => ⟨_, (pss_cons (ps_if0 (pt_cmpR op_eq (pv 0) pe_str (nomark _)) (pss_one (ps_ret (pe_cl C_law_met hr (by decide) (by rfl) (pa_cons (pv 1) (pa_cons (pe_ix ix_tup (pv 2) pe_int (fun _ _ => rfl)) (pa_cons (pe_ix ix_tup (pv 2) pe_int (fun _ _ => rfl)) pa_nil)))))))
    (pss_cons (ps_if0 (pt_cmpR op_eq (pv 0) pe_str (nomark _)) (pss_cons (ps_if0 ((pw_or (pt_cmpR op_ne (pe_ix ix_tup (pv 2) pe_int (fun _ _ => rfl)) (pe_ix ix_tup (pv 2) pe_int (fun _ _ => rfl)) (nomark _)) (pw_or1 (pt_cmpR op_notIn_seq (pe_ix ix_tup (pv 2) pe_int (fun _ _ => rfl)) (pv 1) rfl)))).pt (pss_one (ps_ret (pv 1))))
    (pss_one (ps_ret (pe_cl C_law_met hr (by decide) (by rfl) (pa_cons (pv 1) (pa_cons (pe_op op_add (pe_ix ix_tup (pv 1) pe_int (fun _ _ => rfl)) (pe_callTy call_int1 (by rfl) (B "int" (by decide)) bt_int (pa_cons (pe_cmpR op_eq (pe_ix ix_tup (pv 1) pe_int (fun _ _ => rfl)) (pe_ix ix_tup (pv 2) pe_int (fun _ _ => rfl)) (nomark _)) pa_nil))) (pa_cons (pe_op op_sub (pe_ix ix_tup (pv 1) pe_int (fun _ _ => rfl)) (pe_callTy call_int1 (by rfl) (B "int" (by decide)) bt_int (pa_cons (pe_or (pe_cmpR op_ne (pe_ix ix_tup (pv 1) pe_int (fun _ _ => rfl)) (pe_ix ix_tup (pv 2) pe_int (fun _ _ => rfl)) (nomark _)) (pe_one (pe_cmpR op_eq (pe_ix ix_tup (pv 1) pe_int (fun _ _ => rfl)) (pe_ix ix_tup (pv 1) pe_int (fun _ _ => rfl)) (nomark _)))) pa_nil))) pa_nil))))))))
    (pss_cons (ps_set (i := 4) sc_law_side.nd rfl (by first | exact .inl rfl | exact .inr rfl) (pe_callTy call_int1 (by rfl) (B "int" (by decide)) bt_int (pa_cons (pe_cmpR op_eq (pv 0) pe_str (nomark _)) pa_nil)))
    (pss_cons (ps_if0 (pt_val (pv 3)) (pss_one (ps_ret (pe_cl C_law_met hr (by decide) (by rfl) (pa_cons (pv 1) (pa_cons (pe_un un_neg pe_int) (pa_cons (pe_op op_sub (pe_ix ix_tup (pv 2) pe_int (fun _ _ => rfl)) (pv 4)) pa_nil)))))))
    (pss_one (ps_ret (pe_cl C_law_met hr (by decide) (by rfl) (pa_cons (pv 1) (pa_cons (pe_op op_add (pe_ix ix_tup (pv 2) pe_int (fun _ _ => rfl)) (pv 4)) (pa_cons pe_int pa_nil)))))))))), fun G vs ds d Q hR gh rp q => ?_⟩))
  obtain ⟨o, a, b, f, rfl, ho, ha, rfl⟩ := hR
  have w := w_start (K := K) (N := N_law_side) (n := 1) (dn := [some (.str o), some (dS (some a)), some (dS (some b)), some (.bl f), none]) gh rp rfl rfl
  rcases ho with rfl | rfl | rfl | rfl
  · refine s_if0F w (et_test (ed_eqS (ed_var rfl) ed_str)) (by rfl) fun H1 w1 => ?_
    refine s_if0F w1 (et_test (ed_eqS (ed_var rfl) ed_str)) (by rfl) fun H2 w2 => ?_
    refine s_set w2 (ed_is (ed_intB (ea_cons (ed_eqS (ed_var rfl) ed_str) ea_nil)) (e := .int 1) (by rfl)) fun v3 H3 w3 => ?_
    cases f with
    | true =>
      refine s_if0T w3 (et_B (ed_var rfl)) (by rfl) fun H4 w4 => ?_
      exact x_ret w4 (ed_is (ed_call (ea_cons (ed_var rfl) (ea_cons (ed_neg ed_int) (ea_cons (ed_sub (ed_ixT (ed_var rfl) ed_int rfl) (ed_var rfl)) ea_nil))) ⟨_, _, _, rfl, rfl⟩) (by rfl)) q
    | false =>
      refine s_if0F w3 (et_B (ed_var rfl)) (by rfl) fun H4 w4 => ?_
      exact x_ret w4 (ed_is (ed_call (ea_cons (ed_var rfl) (ea_cons (ed_add (ed_ixT (ed_var rfl) ed_int rfl) (ed_var rfl)) (ea_cons ed_int ea_nil))) ⟨_, _, _, rfl, rfl⟩) (by rfl)) q
  · refine s_if0F w (et_test (ed_eqS (ed_var rfl) ed_str)) (by rfl) fun H1 w1 => ?_
    refine s_if0F w1 (et_test (ed_eqS (ed_var rfl) ed_str)) (by rfl) fun H2 w2 => ?_
    refine s_set w2 (ed_is (ed_intB (ea_cons (ed_eqS (ed_var rfl) ed_str) ea_nil)) (e := .int 0) (by rfl)) fun v3 H3 w3 => ?_
    cases f with
    | true =>
      refine s_if0T w3 (et_B (ed_var rfl)) (by rfl) fun H4 w4 => ?_
      exact x_ret w4 (ed_is (ed_call (ea_cons (ed_var rfl) (ea_cons (ed_neg ed_int) (ea_cons (ed_sub (ed_ixT (ed_var rfl) ed_int rfl) (ed_var rfl)) ea_nil))) ⟨_, _, _, rfl, rfl⟩) (by rw [Int.sub_zero]; rfl)) q
    | false =>
      refine s_if0F w3 (et_B (ed_var rfl)) (by rfl) fun H4 w4 => ?_
      exact x_ret w4 (ed_is (ed_call (ea_cons (ed_var rfl) (ea_cons (ed_add (ed_ixT (ed_var rfl) ed_int rfl) (ed_var rfl)) (ea_cons ed_int ea_nil))) ⟨_, _, _, rfl, rfl⟩) (by rw [Int.add_zero]; rfl)) q
  · refine s_if0T w (et_test (ed_eqS (ed_var rfl) ed_str)) (by rfl) fun H1 w1 => ?_
    cases f with
    | true => exact x_ret w1 (ed_is (ed_call (ea_cons (ed_var rfl) (ea_cons (ed_ixT (ed_var rfl) ed_int rfl) (ea_cons (ed_ixT (ed_var rfl) ed_int rfl) ea_nil))) ⟨_, _, _, rfl, rfl⟩) (by rfl)) q
    | false => exact x_ret w1 (ed_is (ed_call (ea_cons (ed_var rfl) (ea_cons (ed_ixT (ed_var rfl) ed_int rfl) (ea_cons (ed_ixT (ed_var rfl) ed_int rfl) ea_nil))) ⟨_, _, _, rfl, rfl⟩) (congrArg dS (met_comm a b))) q
  · have key : dS (if f = true then onesF "!=" a b else othersF "!=" b a) = dS (besideF a b) := by cases f <;> rfl
    rw [key] at q
    refine s_if0F w (et_test (ed_eqS (ed_var rfl) ed_str)) (by rfl) fun H1 w1 => ?_
    refine s_if0T w1 (et_test (ed_eqS (ed_var rfl) ed_str)) (by rfl) fun H2 w2 => ?_
    refine s_if0 w2 (et_or (et_test (ed_ne (ed_ixT (ed_var rfl) ed_int rfl) (ed_ixT (ed_var rfl) ed_int rfl))) fun hb => (et_test (ed_niT (ed_ixT (ed_var rfl) ed_int rfl) (ed_var rfl)))) (fun hb H3 w3 => ?_) (fun hb H3 w3 => ?_)
    · have h : b.1 ≠ b.2 ∨ ¬ (b.1 = a.1 ∨ b.1 = a.2) := by
        rw [Bool.or_eq_true, Bool.not_eq_true', decide_eq_false_iff_not, Bool.not_eq_true', Bool.or_eq_false_iff, decide_eq_false_iff_not, decide_eq_false_iff_not] at hb
        omega
      exact x_ret w3 (ed_is (ed_var rfl) (by rw [beside_out h])) q
    · rw [Bool.or_eq_false_iff, Bool.not_eq_false', decide_eq_true_iff, Bool.not_eq_false', Bool.or_eq_true, decide_eq_true_iff, decide_eq_true_iff] at hb
      exact x_ret w3 (ed_is (ed_call (ea_cons (ed_var rfl) (ea_cons (ed_add (ed_ixT (ed_var rfl) ed_int rfl) (ed_intB (ea_cons (ed_eq (ed_ixT (ed_var rfl) ed_int rfl) (ed_ixT (ed_var rfl) ed_int rfl)) ea_nil))) (ea_cons (ed_sub (ed_ixT (ed_var rfl) ed_int rfl) (ed_intB (ea_cons (ed_orV (ed_ne (ed_ixT (ed_var rfl) ed_int rfl) (ed_ixT (ed_var rfl) ed_int rfl)) fun hb => (ed_eq (ed_ixT (ed_var rfl) ed_int rfl) (ed_ixT (ed_var rfl) ed_int rfl))) ea_nil))) ea_nil))) ⟨_, _, _, rfl, rfl⟩) (congrArg dS (lside_ne ha.2.1 hb.1 hb.2))) q
abbrev s_law_kept : Stmt := topS 36
abbrev N_law_kept : List Str := ["_law_told_here", "_law_known_here", "_law_left", "_law_right", "_law_ends", "_law_made", "_law_k"]
theorem sc_law_kept : FnScope N_law_kept ["_law_told_here", "_law_known_here"] (defScope s_law_kept) := ⟨rfl, rfl, rfl, by decide +kernel, rfl, by decide +kernel, by decide +kernel⟩
theorem ok_law_kept {f : Addr} {fd : FuncData} (F : Df K mg "_law_kept" s_law_kept ["_law_told_here", "_law_known_here"] f fd) (B : Free mg BLT) (C_law_reach : Cl P w K mg base 7 "_law_reach" ["_law_part", "_law_known_here"] (SpR K (R_reach 6))) (C_law_side : Cl P w K mg base 2 "_law_side" ["_law_sign", "_law_own", "_law_other", "_law_first"] (SpR K R_lside)) (C_law_met : Cl P w K mg base 1 "_law_met" ["_law_one", "_law_low", "_law_high"] (SpR K R_lmet)) : Cl P w K mg base 8 "_law_kept" ["_law_told_here", "_law_known_here"] (SpR K R_lkept) := by
  refine F.cl (ok_R (k := 7) F.fn sc_law_kept (by rintro _ _ ⟨c, ks, ns, rfl, hc, hk, hl, hd1, hd2, rfl⟩; rfl) (fun cdv A outer s H E hr => ⟨_, (pss_cons (ps_set (i := 2) sc_law_kept.nd rfl (by first | exact .inl rfl | exact .inr rfl) (pe_cl C_law_reach hr (by decide) (by rfl) (pa_cons (pe_ix ix_tup (pv 0) pe_int (fun _ _ => rfl)) (pa_cons (pv 1) pa_nil))))
    (pss_cons (ps_set (i := 3) sc_law_kept.nd rfl (by first | exact .inl rfl | exact .inr rfl) (pe_cl C_law_reach hr (by decide) (by rfl) (pa_cons (pe_ix ix_tup (pv 0) pe_int (fun _ _ => rfl)) (pa_cons (pv 1) pa_nil))))
    (pss_cons (ps_if0 ((pw_or (pt_cmpR op_isN (pv 2) pe_non (nomark _)) (pw_or1 (pt_cmpR op_isN (pv 3) pe_non (nomark _))))).pt (pss_one (ps_ret pe_non)))
    (pss_cons (ps_set (i := 4) sc_law_kept.nd rfl (by first | exact .inl rfl | exact .inr rfl) (pe_lst (pa_cons (pe_cl C_law_side hr (by decide) (by rfl) (pa_cons (pe_ix ix_tup (pv 0) pe_int (fun _ _ => rfl)) (pa_cons (pv 2) (pa_cons (pv 3) (pa_cons pe_bl pa_nil))))) (pa_cons (pe_cl C_law_side hr (by decide) (by rfl) (pa_cons (pe_ix ix_tup (pv 0) pe_int (fun _ _ => rfl)) (pa_cons (pv 3) (pa_cons (pv 2) (pa_cons pe_bl pa_nil))))) pa_nil))))
    (pss_cons (ps_set (i := 5) sc_law_kept.nd rfl (by first | exact .inl rfl | exact .inr rfl) (pe_callTy call_dictC (by rfl) (B "dict" (by decide)) bt_dict (pa_cons (pv 1) pa_nil)))
    (pss_cons (ps_for PassesOwn.never rfl (pi_range1 (by rfl) (B "range" (by decide)) (pa_cons pe_int pa_nil)) (pg_name (i := 6) sc_law_kept.nd rfl (by first | exact Or.inl rfl | exact Or.inr rfl)) (pss_cons (ps_if0 (pt_cmpR op_isN (pe_ix ix_list (pv 4) (pv 6) (fun _ _ => rfl)) pe_non (nomark _)) (pss_one (ps_ret pe_non)))
    (pss_one (ps_if0 (pt_val (pe_callB call_isi (by rfl) (B "isinstance" (by decide)) bt_isinstance (pa_cons (pe_ix ix_tup (pv 0) (pe_op op_add pe_int (pv 6)) (fun _ _ => rfl)) (pa_cons (pe_ty (by rfl) (B "str" (by decide)) bt_str) pa_nil)))) (pss_cons (ps_dput (hu_of hr) (pv 5) (pe_ix ix_tup (pv 0) (pe_op op_add pe_int (pv 6)) (fun _ _ => rfl)) (pe_cl C_law_met hr (by decide) (by rfl) (pa_cons (pe_dget (hu_of hr) (pv 5) (pe_ix ix_tup (pv 0) (pe_op op_add pe_int (pv 6)) (fun _ _ => rfl)) (fun _ _ => rfl)) (pa_cons (pe_ix ix_tup (pe_ix ix_list (pv 4) (pv 6) (fun _ _ => rfl)) pe_int (fun _ _ => rfl)) (pa_cons (pe_ix ix_tup (pe_ix ix_list (pv 4) (pv 6) (fun _ _ => rfl)) pe_int (fun _ _ => rfl)) pa_nil)))) rfl)
    (pss_one (ps_if0 (pt_cmpR op_isN (pe_dget (hu_of hr) (pv 5) (pe_ix ix_tup (pv 0) (pe_op op_add pe_int (pv 6)) (fun _ _ => rfl)) (fun _ _ => rfl)) pe_non (nomark _)) (pss_one (ps_ret pe_non)))))))))
    (pss_one (ps_ret (pv 5))))))))), fun G vs ds d Q hR gh rp q => ?_⟩))
  obtain ⟨c, ks, ns, rfl, hc, hk, hl, hd1, hd2, rfl⟩ := hR
  have w := w_start (K := K) (N := N_law_kept) (n := 5) (dn := [some (c.dt), some (.dct ks), none, none, none, none, none]) gh rp rfl rfl
  obtain ⟨o, l, r⟩ := c
  have ho : o = "<" ∨ o = "<=" ∨ o = "=" ∨ o = "!=" := hc.2.2
  have ho1 : l.ok ns := hc.1
  have ho2 : r.ok ns := hc.2.1
  
  have retn : ∀ {dn : Dn} {ow : Ow} {G' H' : Hp} {σ' : L2.St} {F : Fr} {D : Ends}, F.M = [] → F.H0 = H → F.G0 = G → D.rt = Q → Wd K F ow dn G' H' σ' → keptF ks ⟨o, l, r⟩ = none → tRet (tC .non) D σ' H' := fun hM hH hG hD w' h => x_ret w' ed_non fun v H' s rp => by
    rw [hD]
    rw [hM, hH] at s
    rw [hG, hH] at rp
    exact q v H' s (by rw [h]; exact rp)
  
  have hd1 : l.deep ≤ 6 := hd1
  have hd2 : r.deep ≤ 6 := hd2
  refine s_set w (ed_call (ea_cons (ed_ixT (ed_var rfl) ed_int rfl) (ea_cons (ed_var rfl) ea_nil)) ⟨_, _, _, rfl, by assumption, hk, by assumption, rfl⟩) fun v0 H0 w0 => ?_
  refine s_set w0 (ed_call (ea_cons (ed_ixT (ed_var rfl) ed_int rfl) (ea_cons (ed_var rfl) ea_nil)) ⟨_, _, _, rfl, by assumption, hk, by assumption, rfl⟩) fun v1 H1 w1 => ?_
  have hla : ∀ a, reachF ks l = some a → Rng a := fun a k => reach_rng hk ho1 k
  have hlb : ∀ b, reachF ks r = some b → Rng b := fun b k => reach_rng hk ho2 k
  have hn1 : reachF ks l = none → keptF ks ⟨o, l, r⟩ = none := fun h => keptF_none (.inl h)
  have hn2 : reachF ks r = none → keptF ks ⟨o, l, r⟩ = none := fun h => keptF_none (.inr h)
  have hn3 : ∀ a b, reachF ks l = some a → reachF ks r = some b → keptF ks ⟨o, l, r⟩ = keptN ks l r (onesF o a b) (othersF o a b) 2 := fun a b h k => keptN_2 h k
  generalize reachF ks l = xa at *
  generalize reachF ks r = xb at *
  rcases xa with _ | a
  · refine s_if0T w1 (et_or (et_test (ed_isN (ed_var rfl) ed_non)) fun hb => (et_test (ed_isN (ed_var rfl) ed_non))) (by rfl) fun H5 w5 => ?_
    exact retn rfl rfl rfl rfl w5 (hn1 rfl)
  rcases xb with _ | b
  · refine s_if0T w1 (et_or (et_test (ed_isN (ed_var rfl) ed_non)) fun hb => (et_test (ed_isN (ed_var rfl) ed_non))) (by rfl) fun H5 w5 => ?_
    exact retn rfl rfl rfl rfl w5 (hn2 rfl)
  refine s_if0F w1 (et_or (et_test (ed_isN (ed_var rfl) ed_non)) fun hb => (et_test (ed_isN (ed_var rfl) ed_non))) (by rfl) fun H5 w5 => ?_
  have ha := hla a rfl
  have hb := hlb b rfl
  have hn3 := hn3 a b rfl rfl
  
  refine s_set w5 (ed_is (ed_lst (ea_cons (ed_call (ea_cons (ed_ixT (ed_var rfl) ed_int rfl) (ea_cons (ed_var rfl) (ea_cons (ed_var rfl) (ea_cons ed_bl ea_nil)))) ⟨_, _, _, _, rfl, by assumption, by assumption, rfl⟩) (ea_cons (ed_call (ea_cons (ed_ixT (ed_var rfl) ed_int rfl) (ea_cons (ed_var rfl) (ea_cons (ed_var rfl) (ea_cons ed_bl ea_nil)))) ⟨_, _, _, _, rfl, by assumption, by assumption, rfl⟩) ea_nil))) (e := .lst [dS (onesF o a b), dS (othersF o a b)]) (by rfl)) fun v6 H6 w6 => ?_
  have hrx : ∀ p, onesF o a b = some p → Rng p := fun _ h => ones_rng ha hb h
  generalize onesF o a b = x at *
  generalize othersF o a b = y at *
  refine s_own w6 (en_dictC (ea_cons (ed_var rfl) ea_nil)) fun p8 G8 H8 w8 => ?_
  refine s_forR1 w8 (ea_cons ed_int ea_nil) (by decide) (fun m ow dn => ∃ f, keptN ks l r x y m = some f ∧ ow = [(p8, .dct f)] ∧ KnownOk f ns ∧ f.length ≤ ks.length + m ∧ dn = [some (Cn.dt ⟨o, l, r⟩), some (.dct ks), some (dS (some a)), some (dS (some b)), some (.lst [dS x, dS y]), some (.adr p8), none]) ⟨_, ⟨ks, rfl, rfl, hk, Nat.le_refl _, rfl⟩, Le.refl _⟩ (fun m ow' dn' σ' G' H' v hi p w' => ?_) (fun ow' dn' σ' G' H' p w' => ?_)
  · obtain ⟨f, hf, rfl, hfk, hfl, rfl⟩ := p
    have hm : m < 2 := by omega
    obtain ⟨e, z, t1, t2, _, t4, t5, t6⟩ := keptN_turn (ks := ks) (o := o) (x := x) (y := y) ho1 ho2 hm
    have t5 := t5 f hf
    rcases z with _ | pp
    · refine s_if0T w' (et_test (ed_isN (ed_ixL (ed_var rfl) (ed_var rfl) t2) ed_non)) (by rfl) fun H9 w9 => ?_
      exact retn rfl rfl rfl rfl w9 (hn3.trans (t6 (t5.trans rfl)))
    refine s_if0F w' (et_test (ed_isN (ed_ixL (ed_var rfl) (ed_var rfl) t2) ed_non)) (by rfl) fun H9 w9 => ?_
    rcases e with i | s | ⟨o2, l2, r2⟩
    · refine x_if0F w9 (et_B (ed_isi (ea_cons (ed_ixT (ed_var rfl) (ed_add ed_int (ed_var rfl)) t1) (ea_cons ed_ty ea_nil)) (by walk_at "sd"))) (by rfl) fun H10 w10 => At.mk w10 ⟨f, t5.trans rfl, rfl, hfk, by omega, rfl⟩ (by walk_at "le")
    · have hs : s ∈ ns := t4
      have GET := (hfk.get hs).1
      refine x_if0T w9 (et_B (ed_isi (ea_cons (ed_ixT (ed_var rfl) (ed_add ed_int (ed_var rfl)) t1) (ea_cons ed_ty ea_nil)) (by walk_at "sd"))) (by rfl) fun H10 w10 => ?_
      refine s_dput (j := 0) (k := .inr s) w10 rfl (ed_var rfl) (ed_ixT (ed_var rfl) (ed_add ed_int (ed_var rfl)) t1) (ed_call (ea_cons (ed_oget (j := 0) (k := .inr s) rfl (ed_var rfl) (ed_ixT (ed_var rfl) (ed_add ed_int (ed_var rfl)) t1) (by first | exact GET2 | exact GET)) (ea_cons (ed_ixT (ed_ixL (ed_var rfl) (ed_var rfl) t2) ed_int rfl) (ea_cons (ed_ixT (ed_ixL (ed_var rfl) (ed_var rfl) t2) ed_int rfl) ea_nil))) ⟨vS f s, pp.1, pp.2, rfl, rfl⟩) (by omega) fun G11 H11 w11 => ?_
      have GET2 : valD (putD f (.inr s) (dS (metF (some (vS f s)) (some (pp.1, pp.2))))) (.inr s) = some (dS (metF (some (vS f s)) (some (pp.1, pp.2)))) := by rw [valD_put, if_pos rfl]
      have t5 : keptN ks l r x y (m + 1) = (match metF (some (vS f s)) (some (pp.1, pp.2)) with | none => none | some q => some (putD f (.inr s) (dS (some q)))) := t5
      have hmr : ∀ z, metF (some (vS f s)) (some (pp.1, pp.2)) = some z → Rng z := fun z h => met_rng (hfk.get hs).2 h
      generalize metF (some (vS f s)) (some (pp.1, pp.2)) = mm at *
      rcases mm with _ | mm
      · refine x_if0T w11 (et_test (ed_isN (ed_oget (j := 0) (k := .inr s) rfl (ed_var rfl) (ed_ixT (ed_var rfl) (ed_add ed_int (ed_var rfl)) t1) (by first | exact GET2 | exact GET)) ed_non)) (by rfl) fun H12 w12 => ?_
        exact retn rfl rfl rfl rfl w12 (hn3.trans (t6 t5))
      · refine x_if0F w11 (et_test (ed_isN (ed_oget (j := 0) (k := .inr s) rfl (ed_var rfl) (ed_ixT (ed_var rfl) (ed_add ed_int (ed_var rfl)) t1) (by first | exact GET2 | exact GET)) ed_non)) (by rfl) fun H12 w12 => ?_
        exact At.mk w12 ⟨_, t5, rfl, hfk.put' hs (hmr mm rfl), Nat.le_trans (putD_len _ _ _) (by omega), rfl⟩ (by walk_at "le")
    · refine x_if0F w9 (et_B (ed_isi (ea_cons (ed_ixT (ed_var rfl) (ed_add ed_int (ed_var rfl)) t1) (ea_cons ed_ty ea_nil)) (by walk_at "sd"))) (by rfl) fun H10 w10 => At.mk w10 ⟨f, t5.trans rfl, rfl, hfk, by omega, rfl⟩ (by walk_at "le")
  · obtain ⟨f, hf, rfl, hfk, hfl, rfl⟩ := p
    have w3 := w'.frozen (j := 0) (i := 5) rfl rfl (by simp [fr0])
    exact x_ret w3 (ed_is (ed_var rfl) (by rw [hn3]; exact congrArg dDO hf.symm)) q
abbrev s_law_contrary : Stmt := topS 37
abbrev N_law_contrary : List Str := ["_law_told_here"]
theorem sc_law_contrary : FnScope N_law_contrary ["_law_told_here"] (defScope s_law_contrary) := ⟨rfl, rfl, rfl, by decide +kernel, rfl, by decide +kernel, by decide +kernel⟩
theorem ok_law_contrary {f : Addr} {fd : FuncData} (F : Df K mg "_law_contrary" s_law_contrary ["_law_told_here"] f fd) : Cl P w K mg base 1 "_law_contrary" ["_law_told_here"] (SpR K R_contrary) := by
  refine F.cl (ok_R (k := 0) F.fn sc_law_contrary (by rintro _ _ ⟨c, ns, rfl, hc, rfl⟩; rfl) (fun cdv A outer s H E hr => ⟨_, (pss_one (ps_ret (pe_dget (hu_of hr) (pe_disp (pps_cons pe_str (pe_tup (pa_cons pe_str (pa_cons (pe_ix ix_tup (pv 0) pe_int (fun _ _ => rfl)) (pa_cons (pe_ix ix_tup (pv 0) pe_int (fun _ _ => rfl)) pa_nil)))) (pps_cons pe_str (pe_tup (pa_cons pe_str (pa_cons (pe_ix ix_tup (pv 0) pe_int (fun _ _ => rfl)) (pa_cons (pe_ix ix_tup (pv 0) pe_int (fun _ _ => rfl)) pa_nil)))) (pps_cons pe_str (pe_tup (pa_cons pe_str (pa_cons (pe_ix ix_tup (pv 0) pe_int (fun _ _ => rfl)) (pa_cons (pe_ix ix_tup (pv 0) pe_int (fun _ _ => rfl)) pa_nil)))) (pps_cons pe_str (pe_tup (pa_cons pe_str (pa_cons (pe_ix ix_tup (pv 0) pe_int (fun _ _ => rfl)) (pa_cons (pe_ix ix_tup (pv 0) pe_int (fun _ _ => rfl)) pa_nil)))) pps_nil)))) (by rfl) (by rfl) (by simp) (by decide)) (pe_ix ix_tup (pv 0) pe_int (fun _ _ => rfl)) (fun _ _ => rfl)))), fun G vs ds d Q hR gh rp q => ?_⟩))
  obtain ⟨c, ns, rfl, hc, rfl⟩ := hR
  have w := w_start (K := K) (N := N_law_contrary) (n := 0) (dn := [some (c.dt)]) gh rp rfl rfl
  obtain ⟨o, l, r⟩ := c
  have ho : o = "<" ∨ o = "<=" ∨ o = "=" ∨ o = "!=" := hc.2.2
  have ho1 : l.ok ns := hc.1
  have ho2 : r.ok ns := hc.2.1
  
  rcases ho with rfl | rfl | rfl | rfl
  · exact x_ret w (ed_is (ed_dget (k := .inr _) (ed_dispT (Epp.cons (k := .inr "<") ed_str (ed_tup (ea_cons ed_str (ea_cons (ed_ixT (ed_var rfl) ed_int rfl) (ea_cons (ed_ixT (ed_var rfl) ed_int rfl) ea_nil)))) (Epp.cons (k := .inr "<=") ed_str (ed_tup (ea_cons ed_str (ea_cons (ed_ixT (ed_var rfl) ed_int rfl) (ea_cons (ed_ixT (ed_var rfl) ed_int rfl) ea_nil)))) (Epp.cons (k := .inr "=") ed_str (ed_tup (ea_cons ed_str (ea_cons (ed_ixT (ed_var rfl) ed_int rfl) (ea_cons (ed_ixT (ed_var rfl) ed_int rfl) ea_nil)))) (Epp.cons (k := .inr "!=") ed_str (ed_tup (ea_cons ed_str (ea_cons (ed_ixT (ed_var rfl) ed_int rfl) (ea_cons (ed_ixT (ed_var rfl) ed_int rfl) ea_nil)))) Epp.nil))))) (ed_ixT (ed_var rfl) ed_int rfl) (by walk_at "sd")) (by rfl)) q
  · exact x_ret w (ed_is (ed_dget (k := .inr _) (ed_dispT (Epp.cons (k := .inr "<") ed_str (ed_tup (ea_cons ed_str (ea_cons (ed_ixT (ed_var rfl) ed_int rfl) (ea_cons (ed_ixT (ed_var rfl) ed_int rfl) ea_nil)))) (Epp.cons (k := .inr "<=") ed_str (ed_tup (ea_cons ed_str (ea_cons (ed_ixT (ed_var rfl) ed_int rfl) (ea_cons (ed_ixT (ed_var rfl) ed_int rfl) ea_nil)))) (Epp.cons (k := .inr "=") ed_str (ed_tup (ea_cons ed_str (ea_cons (ed_ixT (ed_var rfl) ed_int rfl) (ea_cons (ed_ixT (ed_var rfl) ed_int rfl) ea_nil)))) (Epp.cons (k := .inr "!=") ed_str (ed_tup (ea_cons ed_str (ea_cons (ed_ixT (ed_var rfl) ed_int rfl) (ea_cons (ed_ixT (ed_var rfl) ed_int rfl) ea_nil)))) Epp.nil))))) (ed_ixT (ed_var rfl) ed_int rfl) (by walk_at "sd")) (by rfl)) q
  · exact x_ret w (ed_is (ed_dget (k := .inr _) (ed_dispT (Epp.cons (k := .inr "<") ed_str (ed_tup (ea_cons ed_str (ea_cons (ed_ixT (ed_var rfl) ed_int rfl) (ea_cons (ed_ixT (ed_var rfl) ed_int rfl) ea_nil)))) (Epp.cons (k := .inr "<=") ed_str (ed_tup (ea_cons ed_str (ea_cons (ed_ixT (ed_var rfl) ed_int rfl) (ea_cons (ed_ixT (ed_var rfl) ed_int rfl) ea_nil)))) (Epp.cons (k := .inr "=") ed_str (ed_tup (ea_cons ed_str (ea_cons (ed_ixT (ed_var rfl) ed_int rfl) (ea_cons (ed_ixT (ed_var rfl) ed_int rfl) ea_nil)))) (Epp.cons (k := .inr "!=") ed_str (ed_tup (ea_cons ed_str (ea_cons (ed_ixT (ed_var rfl) ed_int rfl) (ea_cons (ed_ixT (ed_var rfl) ed_int rfl) ea_nil)))) Epp.nil))))) (ed_ixT (ed_var rfl) ed_int rfl) (by walk_at "sd")) (by rfl)) q
  · exact x_ret w (ed_is (ed_dget (k := .inr _) (ed_dispT (Epp.cons (k := .inr "<") ed_str (ed_tup (ea_cons ed_str (ea_cons (ed_ixT (ed_var rfl) ed_int rfl) (ea_cons (ed_ixT (ed_var rfl) ed_int rfl) ea_nil)))) (Epp.cons (k := .inr "<=") ed_str (ed_tup (ea_cons ed_str (ea_cons (ed_ixT (ed_var rfl) ed_int rfl) (ea_cons (ed_ixT (ed_var rfl) ed_int rfl) ea_nil)))) (Epp.cons (k := .inr "=") ed_str (ed_tup (ea_cons ed_str (ea_cons (ed_ixT (ed_var rfl) ed_int rfl) (ea_cons (ed_ixT (ed_var rfl) ed_int rfl) ea_nil)))) (Epp.cons (k := .inr "!=") ed_str (ed_tup (ea_cons ed_str (ea_cons (ed_ixT (ed_var rfl) ed_int rfl) (ea_cons (ed_ixT (ed_var rfl) ed_int rfl) ea_nil)))) Epp.nil))))) (ed_ixT (ed_var rfl) ed_int rfl) (by walk_at "sd")) (by rfl)) q
abbrev s_law_same_dict : Stmt := topS 38
abbrev N_law_same_dict : List Str := ["_law_found", "_law_due", "_law_name"]
theorem sc_law_same_dict : FnScope N_law_same_dict ["_law_found", "_law_due"] (defScope s_law_same_dict) := ⟨rfl, rfl, rfl, by decide +kernel, rfl, by decide +kernel, by decide +kernel⟩
theorem ok_law_same_dict {f : Addr} {fd : FuncData} (F : Df K mg "_law_same_dict" s_law_same_dict ["_law_found", "_law_due"] f fd) (B : Free mg BLT) (C_law_is_stretch : Cl P w K mg base 2 "_law_is_stretch" ["_law_found"] (SpR K R_is)) : Cl P w K mg base 3 "_law_same_dict" ["_law_found", "_law_due"] (SpR K R_same) := by
  refine F.cl (ok_R (k := 2) F.fn sc_law_same_dict (by rintro _ _ ⟨ks, ns, rfl, hk, rfl⟩; rfl) (fun cdv A outer s H E hr => ⟨_, (pss_cons (ps_if0 ((pw_or (pt_not (pt_val (pe_callB call_isi (by rfl) (B "isinstance" (by decide)) bt_isinstance (pa_cons (pv 0) (pa_cons (pe_ty (by rfl) (B "dict" (by decide)) bt_dict) pa_nil))))) (pw_or1 (pt_cmpR (op_neX hr.units) (pv 0) (pv 1) (nomark _))))).pt (pss_one (ps_ret pe_bl)))
    (pss_cons (ps_forD (ps_for PassesOwn.never rfl (pi_keys (pv 1)) (pg_name (i := 2) sc_law_same_dict.nd rfl (by first | exact Or.inl rfl | exact Or.inr rfl)) (pss_one (ps_if0 (pt_not (pt_val (pe_cl C_law_is_stretch hr (by decide) (by rfl) (pa_cons (pe_dget (hu_of hr) (pv 0) (pv 2) (fun _ _ => rfl)) pa_nil)))) (pss_one (ps_ret pe_bl))))))
    (pss_one (ps_ret pe_bl)))), fun G vs ds d Q hR gh rp q => ?_⟩))
  obtain ⟨ks, ns, rfl, hk, rfl⟩ := hR
  have w := w_start (K := K) (N := N_law_same_dict) (n := 1) (dn := [some (.dct ks), some (.dct ks), none]) gh rp rfl rfl
  refine s_if0F w (et_or (et_not (et_B (ed_isi (ea_cons (ed_var rfl) (ea_cons ed_ty ea_nil)) (by walk_at "sd")))) fun hb => (et_test (ed_neX (ed_var rfl) (ed_var rfl) hk.self))) (by rfl) fun H1 w1 => ?_
  refine s_forD w1 (j := 1) rfl (fun i ow dn => ow = [] ∧ dn = [some (.dct ks), some (.dct ks), none]) ⟨_, ⟨rfl, rfl⟩, Le.refl _⟩ (fun F1 D1 i k d ow' dn' σ' G' H' v hR he p w' => ?_) (fun ow' dn' σ' G' H' p w' => ?_)
  · obtain ⟨rfl, rfl⟩ := p
    have hmem := List.mem_of_getElem? he
    obtain ⟨s, pp, e, hp, hs⟩ := hk.keys _ hmem
    cases e
    have hv := val_mem ks hk.nd _ _ hmem
    exact x_if0F w' (et_not (et_B (ed_call (ea_cons (ed_dget (k := .inr _) (ed_var rfl) (ed_var rfl) hv) ea_nil) ⟨some pp, rfl, rfl⟩))) (by rfl) fun H3 w3 => At.mk w3 ⟨rfl, rfl⟩ (by walk_at "le")
  · obtain ⟨rfl, rfl⟩ := p
    exact x_ret w' ed_bl q
abbrev s_law_told : Stmt := topS 39
abbrev N_law_told : List Str := ["_law_script", "_law_names_here", "_law_known_here", "_law_xs", "_law_told_here", "_law_name", "_law_near"]
theorem sc_law_told : FnScope N_law_told ["_law_script", "_law_names_here", "_law_known_here"] (defScope s_law_told) := ⟨rfl, rfl, rfl, by decide +kernel, rfl, by decide +kernel, by decide +kernel⟩
theorem ok_law_told {f : Addr} {fd : FuncData} (F : Df K mg "_law_told" s_law_told ["_law_script", "_law_names_here", "_law_known_here"] f fd) (B : Free mg BLT) (C_law_stream : Cl P w K mg base 1 "_law_stream" ["_law_cell", "_law_many"] (SpR K R_stream)) (C_law_cell_at : Cl P w K mg base 1 "_law_cell_at" ["_law_script", "_law_k"] (SpR K R_cell)) (C_law_condition : Cl P w K mg base 10 "_law_condition" ["_law_xs", "_law_names_here"] (SpR K R_cond14)) : Cl P w K mg base 11 "_law_told" ["_law_script", "_law_names_here", "_law_known_here"] (SpR K R_told) := by
  refine F.cl (ok_R (k := 10) F.fn sc_law_told (by rintro _ _ ⟨zs, ns, ks, rfl, hn, hk, rfl⟩; rfl) (fun cdv A outer s H E hr => ⟨_, (pss_cons (ps_set (i := 3) sc_law_told.nd rfl (by first | exact .inl rfl | exact .inr rfl) (pe_cl C_law_stream hr (by decide) (by rfl) (pa_cons (pe_cl C_law_cell_at hr (by decide) (by rfl) (pa_cons (pv 0) (pa_cons pe_int pa_nil))) (pa_cons pe_int pa_nil))))
    (pss_cons (ps_set (i := 4) sc_law_told.nd rfl (by first | exact .inl rfl | exact .inr rfl) (pe_cl C_law_condition hr (by decide) (by rfl) (pa_cons (pv 3) (pa_cons (pv 1) pa_nil))))
    (pss_cut (ps_if0 (pt_cmpR op_eq (pe_op op_mod (pe_ix ix_list (pv 3) pe_int (fun _ _ => rfl)) pe_int) pe_int (nomark _)) (pss_cons (ps_set (i := 5) sc_law_told.nd rfl (by first | exact .inl rfl | exact .inr rfl) (pe_ix ix_list (pv 1) (pe_op op_mod (pe_ix ix_list (pv 3) pe_int (fun _ _ => rfl)) (pe_callB call_len_seq (by rfl) (B "len" (by decide)) bt_len (pa_cons (pv 1) pa_nil))) (fun _ _ => rfl)))
    (pss_cons (ps_set (i := 6) sc_law_told.nd rfl (by first | exact .inl rfl | exact .inr rfl) (pe_op op_add (pe_ix ix_tup (pe_dget (hu_of hr) (pv 2) (pv 5) (fun _ _ => rfl)) (pe_op op_mod (pe_op op_fdiv (pe_ix ix_list (pv 3) pe_int (fun _ _ => rfl)) pe_int) pe_int) (fun _ _ => rfl)) (pe_ix ix_list (pe_lst (pa_cons pe_int (pa_cons pe_int (pa_cons (pe_un un_neg pe_int) (pa_cons pe_int pa_nil))))) (pe_op op_mod (pe_op op_fdiv (pe_ix ix_list (pv 3) pe_int (fun _ _ => rfl)) pe_int) pe_int) (fun _ _ => rfl))))
    (pss_cons (ps_set (i := 6) sc_law_told.nd rfl (by first | exact .inl rfl | exact .inr rfl) (pe_ix ix_list (pe_lst (pa_cons (pv 5) (pa_cons (pe_callB (call_min2 rfl) (by rfl) (B "min" (by decide)) bt_min (pa_cons pe_int (pa_cons (pe_callB (call_max2 rfl) (by rfl) (B "max" (by decide)) bt_max (pa_cons (pe_un un_neg pe_int) (pa_cons (pv 6) pa_nil))) pa_nil))) pa_nil))) (pe_callTy call_int1 (by rfl) (B "int" (by decide)) bt_int (pa_cons (pe_cmpR op_gt (pe_op op_mod (pe_op op_fdiv (pe_ix ix_list (pv 3) pe_int (fun _ _ => rfl)) pe_int) pe_int) pe_int (nomark _)) pa_nil)) (fun _ _ => rfl)))
    (pss_one (ps_set (i := 4) sc_law_told.nd rfl (by first | exact .inl rfl | exact .inr rfl) (pe_ix ix_list (pe_lst (pa_cons (pe_tup (pa_cons (pe_ix ix_tup (pv 4) pe_int (fun _ _ => rfl)) (pa_cons (pv 5) (pa_cons (pv 6) pa_nil)))) (pa_cons (pe_tup (pa_cons (pe_ix ix_tup (pv 4) pe_int (fun _ _ => rfl)) (pa_cons (pv 6) (pa_cons (pv 5) pa_nil)))) pa_nil))) (pe_op op_mod (pe_op op_fdiv (pe_ix ix_list (pv 3) pe_int (fun _ _ => rfl)) pe_int) pe_int) (fun _ _ => rfl))))))))
    (pss_one (ps_ret (pv 4)))))), fun G vs ds d Q hR gh rp q => ?_⟩))
  obtain ⟨zs, ns, ks, rfl, hn, hk, rfl⟩ := hR
  have w := w_start (K := K) (N := N_law_told) (n := 4) (dn := [some (.lst (zs.map .int)), some (.lst (ns.map .str)), some (.dct ks), none, none, none, none]) gh rp rfl rfl
  have hl : 0 < (ns.map Dt.str).length := by rw [List.length_map]; exact hn
  refine s_set w (ed_is (ed_call (ea_cons (ed_call (ea_cons (ed_var rfl) (ea_cons ed_int ea_nil)) ⟨_, _, rfl, (by walk_at "sd"), rfl⟩) (ea_cons ed_int ea_nil)) ⟨_, _, rfl, (by walk_at "sd"), rfl⟩) (e := .lst [.int (sqF (cellF zs 2) 2), .int (sqF (cellF zs 2) 3), .int (sqF (cellF zs 2) 4), .int (sqF (cellF zs 2) 5), .int (sqF (cellF zs 2) 6), .int (sqF (cellF zs 2) 7), .int (sqF (cellF zs 2) 8), .int (sqF (cellF zs 2) 9), .int (sqF (cellF zs 2) 10), .int (sqF (cellF zs 2) 11), .int (sqF (cellF zs 2) 12), .int (sqF (cellF zs 2) 13), .int (sqF (cellF zs 2) 14), .int (sqF (cellF zs 2) 15)]) (by rfl)) fun v0 H0 w0 => ?_
  refine s_set w0 (ed_call (ea_cons (ed_var rfl) (ea_cons (ed_var rfl) ea_nil)) ⟨fun k => sqF (cellF zs 2) (k + 2), ns, rfl, hn, rfl⟩) fun v1 H1 w1 => ?_
  have hT := toldF_out (fun k => sqF (cellF zs 2) (k + 2)) ns ks
  have hI := toldF_in (fun k => sqF (cellF zs 2) (k + 2)) ns ks
  refine x_cut w1 [] [some (.lst (zs.map .int)), some (.lst (ns.map .str)), some (.dct ks), none, some (toldF (fun k => sqF (cellF zs 2) (k + 2)) ns ks).dt, none, none] ?_ fun σ2 G2 H2 w2 => ?_
  · refine x_if0 w1 (et_test (ed_eq (ed_mod (ed_ixL (ed_var rfl) ed_int rfl) ed_int (by walk_at "sd")) ed_int)) (fun hb H2 w2 => ?_) (fun hb H2 w2 => ?_)
    · have h := of_decide_eq_true hb
      have hmod : 0 ≤ sqF (cellF zs 2) 15 % (ns.length : Int) ∧ sqF (cellF zs 2) 15 % (ns.length : Int) < ns.length := ⟨Int.emod_nonneg _ (by omega), Int.emod_lt_of_pos _ (by omega)⟩
      refine s_set w2 (ed_is (ed_ixL (ed_var rfl) (ed_mod (ed_ixL (ed_var rfl) ed_int rfl) (ed_lenL (ea_cons (ed_var rfl) ea_nil)) (by walk_at "sd")) (at_strs' (by rw [List.length_map]; exact hmod))) (e := .str (ns.getD (sqF (cellF zs 2) 15 % (ns.length : Int)).toNat "")) (by rw [List.length_map])) fun v3 H3 w3 => ?_
      have hI := fun s hs n hn e he => hI h (s := s) hs (n := n) hn (e := e) he
      have hs := getD_in hmod
      have hI := hI _ rfl
      have hI : ∀ n, n = sel2 (sqF (cellF zs 2) 15 / 12 % 2) (vS ks (ns.getD (sqF (cellF zs 2) 15 % (ns.length : Int)).toNat "")).1 (vS ks (ns.getD (sqF (cellF zs 2) 15 % (ns.length : Int)).toNat "")).2 + sel4 (sqF (cellF zs 2) 15 / 24 % 4) 0 0 (-1) 1 → ∀ e, e = (if sqF (cellF zs 2) 15 / 96 % 4 > 0 then Ex.num (min 1000000 (max (-1000000) n)) else .nam (ns.getD (sqF (cellF zs 2) 15 % (ns.length : Int)).toNat "")) → toldF (fun k => sqF (cellF zs 2) (k + 2)) ns ks = sel2 (sqF (cellF zs 2) 15 / 384 % 2) ⟨(condF (fun k => sqF (cellF zs 2) (k + 2)) ns).o, .nam (ns.getD (sqF (cellF zs 2) 15 % (ns.length : Int)).toNat ""), e⟩ ⟨(condF (fun k => sqF (cellF zs 2) (k + 2)) ns).o, e, .nam (ns.getD (sqF (cellF zs 2) 15 % (ns.length : Int)).toNat "")⟩ := fun n hn e he => hI n hn e he
      generalize ns.getD (sqF (cellF zs 2) 15 % (ns.length : Int)).toNat "" = s at *
      have hv := (hk.get hs).1
      refine s_set w3 (ed_add (ed_ixT (ed_dget (k := .inr _) (ed_var rfl) (ed_var rfl) hv) (ed_mod (ed_div (ed_ixL (ed_var rfl) ed_int rfl) ed_int (by walk_at "sd")) ed_int (by walk_at "sd")) (at2i (by omega))) (ed_ixL (ed_lst (ea_cons ed_int (ea_cons ed_int (ea_cons (ed_neg ed_int) (ea_cons ed_int ea_nil))))) (ed_mod (ed_div (ed_ixL (ed_var rfl) ed_int rfl) ed_int (by walk_at "sd")) ed_int (by walk_at "sd")) (at4i (by walk_at "sd")))) fun v4 H4 w4 => ?_
      have hI := hI _ rfl
      generalize sel2 (sqF (cellF zs 2) 15 / 12 % 2) (vS ks s).1 (vS ks s).2 + sel4 (sqF (cellF zs 2) 15 / 24 % 4) 0 0 (-1) 1 = n at *
      refine s_set w4 (ed_is (ed_ixL (ed_lst (ea_cons (ed_var rfl) (ea_cons (ed_min2 (ea_cons ed_int (ea_cons (ed_max2 (ea_cons (ed_neg ed_int) (ea_cons (ed_var rfl) ea_nil))) ea_nil))) ea_nil))) (ed_intB (ea_cons (ed_gt (ed_mod (ed_div (ed_ixL (ed_var rfl) ed_int rfl) ed_int (by walk_at "sd")) ed_int (by walk_at "sd")) ed_int) ea_nil)) at2b) (e := (if sqF (cellF zs 2) 15 / 96 % 4 > 0 then Ex.num (min 1000000 (max (-1000000) n)) else .nam s).dt) (by by_cases z : sqF (cellF zs 2) 15 / 96 % 4 > 0 <;> simp [z, Ex.dt])) fun v5 H5 w5 => ?_
      have hI := hI _ rfl
      generalize (if sqF (cellF zs 2) 15 / 96 % 4 > 0 then Ex.num (min 1000000 (max (-1000000) n)) else .nam s) = e at *
      refine x_set w5 (ed_is (ed_ixL (ed_lst (ea_cons (ed_tup (ea_cons (ed_ixT (ed_var rfl) ed_int rfl) (ea_cons (ed_var rfl) (ea_cons (ed_var rfl) ea_nil)))) (ea_cons (ed_tup (ea_cons (ed_ixT (ed_var rfl) ed_int rfl) (ea_cons (ed_var rfl) (ea_cons (ed_var rfl) ea_nil)))) ea_nil))) (ed_mod (ed_div (ed_ixL (ed_var rfl) ed_int rfl) ed_int (by walk_at "sd")) ed_int (by walk_at "sd")) (at2 (by omega))) (e := (toldF (fun k => sqF (cellF zs 2) (k + 2)) ns ks).dt) (by rw [hI]; unfold sel2; split <;> rfl)) fun v6 H6 w6 => Knows.mk w6 (by walk_at "le")
    · have h := of_decide_eq_false hb
      rw [hT h]
      exact Knows.mk w2 (by walk_at "le")
  · exact x_ret w2 (ed_var rfl) q
abbrev s_law_good : Stmt := topS 40
abbrev N_law_good : List Str := ["_law_told_here", "_law_known_here", "_law_held_here", "_law_found", "_law_due", "_law_name"]
theorem sc_law_good : FnScope N_law_good ["_law_told_here", "_law_known_here", "_law_held_here"] (defScope s_law_good) := ⟨rfl, rfl, rfl, by decide +kernel, rfl, by decide +kernel, by decide +kernel⟩
theorem ok_law_good {f : Addr} {fd : FuncData} (F : Df K mg "_law_good" s_law_good ["_law_told_here", "_law_known_here", "_law_held_here"] f fd) (C_kept : Cl P w K mg base 9 "kept" ["condition", "known"] (SpO K R_kept)) (C_law_kept : Cl P w K mg base 8 "_law_kept" ["_law_told_here", "_law_known_here"] (SpR K R_lkept)) (C_law_same_dict : Cl P w K mg base 3 "_law_same_dict" ["_law_found", "_law_due"] (SpR K R_same)) (C_law_holds : Cl P w K mg base 7 "_law_holds" ["_law_told_here", "_law_held_here"] (SpR K R_holds)) : Cl P w K mg base 10 "_law_good" ["_law_told_here", "_law_known_here", "_law_held_here"] (SpR K R_good) := by
  refine F.cl (ok_R (k := 9) F.fn sc_law_good (by rintro _ _ ⟨c, ks, hs, ns, rfl, hc, hd1, hd2, hk, hl, hh, rfl⟩; rfl) (fun cdv A outer s H E hr => ⟨_, (pss_cons (ps_set (i := 3) sc_law_good.nd rfl (by first | exact .inl rfl | exact .inr rfl) (pe_cl C_kept hr (by decide) (by rfl) (pa_cons (pv 0) (pa_cons (pv 1) pa_nil))))
    (pss_cons (ps_set (i := 4) sc_law_good.nd rfl (by first | exact .inl rfl | exact .inr rfl) (pe_cl C_law_kept hr (by decide) (by rfl) (pa_cons (pv 0) (pa_cons (pv 1) pa_nil))))
    (pss_cons (ps_if0 ((pw_or ((pw_and (pt_cmpR op_isN (pv 4) pe_non (nomark _)) (pw_and1 (pt_cmpR op_notN (pv 3) pe_non (nomark _))))).pt (pw_or1 ((pw_and (pt_cmpR op_notN (pv 4) pe_non (nomark _)) (pw_and1 (pt_not (pt_val (pe_cl C_law_same_dict hr (by decide) (by rfl) (pa_cons (pv 3) (pa_cons (pv 4) pa_nil)))))))).pt))).pt (pss_one (ps_ret pe_bl)))
    (pss_cons (ps_if0 (pt_not (pt_truth (pe_cl C_law_holds hr (by decide) (by rfl) (pa_cons (pv 0) (pa_cons (pv 2) pa_nil))) (fun _ => rfl))) (pss_one (ps_ret pe_bl)))
    (pss_cons (ps_if0 (pt_cmpR op_isN (pv 3) pe_non (nomark _)) (pss_one (ps_ret pe_bl)))
    (pss_cons (ps_forD (ps_for PassesOwn.never rfl (pi_keys (pv 2)) (pg_name (i := 5) sc_law_good.nd rfl (by first | exact Or.inl rfl | exact Or.inr rfl)) (pss_one (ps_if0 (pt_not (pt_chain op_le op_le (pe_ix ix_tup (pe_dget (hu_of hr) (pv 3) (pv 5) (fun _ _ => rfl)) pe_int (fun _ _ => rfl)) (pe_dget (hu_of hr) (pv 2) (pv 5) (fun _ _ => rfl)) (pe_ix ix_tup (pe_dget (hu_of hr) (pv 3) (pv 5) (fun _ _ => rfl)) pe_int (fun _ _ => rfl)))) (pss_one (ps_ret pe_bl))))))
    (pss_cons (ps_expr (pe_dclear (pv 3)))
    (pss_one (ps_ret pe_bl))))))))), fun G vs ds d Q hR gh rp q => ?_⟩))
  obtain ⟨c, ks, hs, ns, rfl, hc, hd1, hd2, hk, hl, hh, rfl⟩ := hR
  have w := w_start (K := K) (N := N_law_good) (n := 3) (dn := [some (c.dt), some (.dct ks), some (.dct hs), none, none, none]) gh rp rfl rfl
  have hk0 : ∀ {r : Option (List (Key × Dt))}, keptF ks c = r → R_kept [c.dt, .dct ks] (r.map Ob.dct) := fun e => ⟨c, ks, ns, rfl, hc, hk, hl, hd1, hd2, by rw [e]⟩
  have hin := fun h => keptF_in hh.ok hh.within hc h
  have hok := fun f h => keptF_ok (k2 := f) hk hc h
  cases hq : keptF ks c with
  | none =>
    refine s_set w (ed_callN (ea_cons (ed_var rfl) (ea_cons (ed_var rfl) ea_nil)) (hk0 hq)) fun v0 H0 w0 => ?_
    refine s_set w0 (ed_is (ed_call (ea_cons (ed_var rfl) (ea_cons (ed_var rfl) ea_nil)) ⟨_, _, ns, rfl, hc, hk, hl, hd1, hd2, rfl⟩) (e := .non) (by rw [hq]; rfl)) fun v1 H1 w1 => ?_
    refine s_if0F w1 (b := false) (et_is (et_or (et_and (et_test (ed_isN (ed_var rfl) ed_non)) fun _ => et_test (ed_notN (ed_var rfl) ed_non)) fun _ => et_and (b := false) (et_test (ed_notN (ed_var rfl) ed_non)) fun hb => absurd hb (by decide)) (by rfl)) rfl fun H2 w2 => ?_
    have hb : (!(holdsF hs c == some true)) = true := by
      cases z : holdsF hs c with
      | none => rfl
      | some b =>
        cases b with
        | false => rfl
        | true =>
          obtain ⟨k2, e, _⟩ := hin z
          rw [hq] at e
          cases e
    refine s_if0T w2 (et_not (et_truOB (ed_call (ea_cons (ed_var rfl) (ea_cons (ed_var rfl) ea_nil)) ⟨_, _, ns, rfl, hc, hh.ok, hd1, hd2, rfl⟩))) hb fun H4 w4 => ?_
    exact x_ret w4 ed_bl q
  | some f =>
    have hf := hok f hq
    refine s_own w (en_callO (ea_cons (ed_var rfl) (ea_cons (ed_var rfl) ea_nil)) (hk0 hq)) fun b G0 H0 w0 => ?_
    refine s_set w0 (ed_is (ed_call (ea_cons (ed_var rfl) (ea_cons (ed_var rfl) ea_nil)) ⟨_, _, ns, rfl, hc, hk, hl, hd1, hd2, rfl⟩) (e := .dct f) (by rw [hq]; rfl)) fun v1 H1 w1 => ?_
    refine s_if0F w1 (b := false) (et_bor (j := 0) (i := 3) rfl rfl (et_is (et_or (et_and (et_test (ed_isN (ed_var rfl) ed_non)) fun hb => (et_test (ed_notN (ed_var rfl) ed_non))) fun hb => (et_and (et_test (ed_notN (ed_var rfl) ed_non)) fun hb => (et_not (et_B (ed_call (ea_cons (ed_var rfl) (ea_cons (ed_var rfl) ea_nil)) ⟨f, ns, rfl, hf.1, rfl⟩))))) (by rfl))) rfl fun H2 w2 => ?_
    cases z : (holdsF hs c == some true) with
    | false =>
      refine s_if0T w2 (et_not (et_truOB (ed_call (ea_cons (ed_var rfl) (ea_cons (ed_var rfl) ea_nil)) ⟨_, _, ns, rfl, hc, hh.ok, hd1, hd2, rfl⟩))) (by rw [z]; rfl) fun H4 w4 => ?_
      exact x_ret w4 ed_bl q
    | true =>
      refine s_if0F w2 (et_not (et_truOB (ed_call (ea_cons (ed_var rfl) (ea_cons (ed_var rfl) ea_nil)) ⟨_, _, ns, rfl, hc, hh.ok, hd1, hd2, rfl⟩))) (by rw [z]; rfl) fun H4 w4 => ?_
      obtain ⟨f', e', hw⟩ := hin (by simpa using z)
      rw [hq] at e'
      cases e'
      refine s_if0F w4 (et_test (ed_isN (ed_var rfl) ed_non)) (by rfl) fun H6 w6 => ?_
      refine s_forD w6 (j := 2) rfl (fun i ow dn => ow = [(b, .dct f)] ∧ dn = [some c.dt, some (.dct ks), some (.dct hs), some (.adr b), some (.dct f), none]) ⟨_, ⟨rfl, rfl⟩, Le.refl _⟩ (fun F1 D1 i k d ow' dn' σ' G' H' v hR he p w' => ?_) (fun ow' dn' σ' G' H' p w' => ?_)
      · obtain ⟨rfl, rfl⟩ := p
        have hmem := List.mem_of_getElem? he
        obtain ⟨s, n, e, hs'⟩ := hh.key _ hmem
        cases e
        have hi := val_mem hs hh.ok.nd _ _ hmem
        have hv := (hf.1.get hs').1
        have hb := hw.all s hs'
        have ev : vI hs s = n := by unfold vI; rw [hi]
        rw [ev] at hb
        exact x_if0F w' (et_not (et_test (ed_chain (ed_ixT (ed_oget (j := 0) (k := .inr s) rfl (ed_var rfl) (ed_var rfl) hv) ed_int rfl) (ed_dget (k := .inr _) (ed_var rfl) (ed_var rfl) hi) (fun hb => (ed_ixT (ed_oget (j := 0) (k := .inr s) rfl (ed_var rfl) (ed_var rfl) hv) ed_int rfl)) rv_le fun hb => rv_le))) (by rw [decide_eq_true hb.1, decide_eq_true hb.2]; rfl) fun H9 w9 => At.mk w9 ⟨rfl, rfl⟩ (by walk_at "le")
      · obtain ⟨rfl, rfl⟩ := p
        refine s_clear (j := 0) w' rfl (ed_var rfl) fun G11 H11 w11 => ?_
        exact x_ret w11 ed_bl q
abbrev s_law : Stmt := topS 41
abbrev N_law : List Str := ["_law_script", "_law_xs", "_law_names_here", "_law_known_here", "_law_held_here", "_law_told_here", "_law_handed", "_law_other"]
theorem sc_law : FnScope N_law ["_law_script"] (defScope s_law) := ⟨rfl, rfl, rfl, by decide +kernel, rfl, by decide +kernel, by decide +kernel⟩
theorem ok_law {f : Addr} {fd : FuncData} (F : Df K mg "law" s_law ["_law_script"] f fd) (B : Free mg BLT) (C_law_stream : Cl P w K mg base 1 "_law_stream" ["_law_cell", "_law_many"] (SpR K R_stream)) (C_law_cell_at : Cl P w K mg base 1 "_law_cell_at" ["_law_script", "_law_k"] (SpR K R_cell)) (C_law_names : Cl P w K mg base 1 "_law_names" ["_law_cell", "_law_many"] (SpR K R_names)) (C_law_known : Cl P w K mg base 3 "_law_known" ["_law_xs", "_law_names_here"] (SpR K R_known)) (C_law_held : Cl P w K mg base 2 "_law_held" ["_law_known_here", "_law_x"] (SpR K R_held)) (C_law_told : Cl P w K mg base 11 "_law_told" ["_law_script", "_law_names_here", "_law_known_here"] (SpR K R_told)) (C_contrary : Cl P w K mg base 1 "contrary" ["condition"] (SpR K R_contrary)) (C_law_contrary : Cl P w K mg base 1 "_law_contrary" ["_law_told_here"] (SpR K R_contrary)) (C_law_good : Cl P w K mg base 10 "_law_good" ["_law_told_here", "_law_known_here", "_law_held_here"] (SpR K R_good)) (C_law_holds : Cl P w K mg base 7 "_law_holds" ["_law_told_here", "_law_held_here"] (SpR K R_holds)) : FnOk P w K mg base CX0 12 f fd ["_law_script"] (SpR K R_law) := by
  refine (ok_R (k := 11) F.fn sc_law (by rintro _ _ ⟨ns, rfl, hn, rfl⟩; rfl) (fun cdv A outer s H E hr => ⟨_, (pss_cons (ps_set (i := 1) sc_law.nd rfl (by first | exact .inl rfl | exact .inr rfl) (pe_cl C_law_stream hr (by decide) (by rfl) (pa_cons (pe_cl C_law_cell_at hr (by decide) (by rfl) (pa_cons (pv 0) (pa_cons pe_int pa_nil))) (pa_cons pe_int pa_nil))))
    (pss_cons (ps_set (i := 2) sc_law.nd rfl (by first | exact .inl rfl | exact .inr rfl) (pe_cl C_law_names hr (by decide) (by rfl) (pa_cons (pe_ix ix_list (pv 1) pe_int (fun _ _ => rfl)) (pa_cons (pe_ix ix_list (pe_lst (pa_cons (pe_op op_add pe_int (pe_op op_mod (pe_ix ix_list (pv 1) pe_int (fun _ _ => rfl)) pe_int)) (pa_cons pe_int pa_nil))) (pe_callTy call_int1 (by rfl) (B "int" (by decide)) bt_int (pa_cons (pe_cmpR op_eq (pe_op op_mod (pe_op op_fdiv (pe_ix ix_list (pv 1) pe_int (fun _ _ => rfl)) pe_int) pe_int) pe_int (nomark _)) pa_nil)) (fun _ _ => rfl)) pa_nil))))
    (pss_cons (ps_set (i := 3) sc_law.nd rfl (by first | exact .inl rfl | exact .inr rfl) (pe_cl C_law_known hr (by decide) (by rfl) (pa_cons (pe_cl C_law_stream hr (by decide) (by rfl) (pa_cons (pe_cl C_law_cell_at hr (by decide) (by rfl) (pa_cons (pv 0) (pa_cons pe_int pa_nil))) (pa_cons pe_int pa_nil))) (pa_cons (pv 2) pa_nil))))
    (pss_cons (ps_set (i := 4) sc_law.nd rfl (by first | exact .inl rfl | exact .inr rfl) (pe_cl C_law_held hr (by decide) (by rfl) (pa_cons (pv 3) (pa_cons (pe_op op_mod (pe_cl C_law_cell_at hr (by decide) (by rfl) (pa_cons (pv 0) (pa_cons pe_int pa_nil))) pe_int) pa_nil))))
    (pss_cons (ps_set (i := 5) sc_law.nd rfl (by first | exact .inl rfl | exact .inr rfl) (pe_cl C_law_told hr (by decide) (by rfl) (pa_cons (pv 0) (pa_cons (pv 2) (pa_cons (pv 3) pa_nil)))))
    (pss_cons (ps_set (i := 6) sc_law.nd rfl (by first | exact .inl rfl | exact .inr rfl) (pe_callTy call_dictC (by rfl) (B "dict" (by decide)) bt_dict (pa_cons (pv 3) pa_nil)))
    (pss_cons (ps_set (i := 7) sc_law.nd rfl (by first | exact .inl rfl | exact .inr rfl) (pe_cl C_contrary hr (by decide) (by rfl) (pa_cons (pv 5) pa_nil)))
    (pss_cons (ps_if0 ((pw_or (pt_not (pt_val (pe_callB call_isi (by rfl) (B "isinstance" (by decide)) bt_isinstance (pa_cons (pv 7) (pa_cons (pe_ty (by rfl) (B "tuple" (by decide)) bt_tuple) pa_nil))))) (pw_or1 (pt_cmpR (op_neD hr.units) (pv 7) (pe_cl C_law_contrary hr (by decide) (by rfl) (pa_cons (pv 5) pa_nil)) (nomark _))))).pt (pss_one (ps_ret pe_bl)))
    (pss_cons (ps_if0 ((pw_or (pt_not (pt_val (pe_cl C_law_good hr (by decide) (by rfl) (pa_cons (pv 5) (pa_cons (pv 6) (pa_cons (pv 4) pa_nil)))))) (pw_or1 (pt_not (pt_val (pe_cl C_law_good hr (by decide) (by rfl) (pa_cons (pv 7) (pa_cons (pv 6) (pa_cons (pv 4) pa_nil))))))))).pt (pss_one (ps_ret pe_bl)))
    (pss_cons (ps_if0 ((pw_and (pt_cmpR op_notN (pe_cl C_law_holds hr (by decide) (by rfl) (pa_cons (pv 5) (pa_cons (pv 4) pa_nil))) pe_non (nomark _)) (pw_and1 (pt_cmpR op_eq (pe_cl C_law_holds hr (by decide) (by rfl) (pa_cons (pv 5) (pa_cons (pv 4) pa_nil))) (pe_cl C_law_holds hr (by decide) (by rfl) (pa_cons (pv 7) (pa_cons (pv 4) pa_nil))) (nomark _))))).pt (pss_one (ps_ret pe_bl)))
    (pss_one (ps_ret (pe_cmpR (op_eqX hr.units) (pv 6) (pv 3) (nomark _)))))))))))))), fun G vs ds d Q hR gh rp q => ?_⟩))
  obtain ⟨ns, rfl, hn, rfl⟩ := hR
  have w := w_start (K := K) (N := N_law) (n := 7) (dn := [some (.lst (ns.map .int)), none, none, none, none, none, none, none]) gh rp rfl rfl
  refine s_set w (ed_is (ed_call (ea_cons (ed_call (ea_cons (ed_var rfl) (ea_cons ed_int ea_nil)) ⟨_, _, rfl, (by walk_at "sd"), rfl⟩) (ea_cons ed_int ea_nil)) ⟨_, _, rfl, (by walk_at "sd"), rfl⟩) (e := .lst [.int (sqF (cellF ns 0) 2), .int (sqF (cellF ns 0) 3), .int (sqF (cellF ns 0) 4)]) (by rfl)) fun v1 H1 w1 => ?_
  have hlen : 0 < (namesF (sqF (cellF ns 0) 2) (if decide (sqF (cellF ns 0) 3 / 3 % 8 = 0) = true then (12 : Int) else 1 + sqF (cellF ns 0) 3 % 3).toNat).length ∧ (namesF (sqF (cellF ns 0) 2) (if decide (sqF (cellF ns 0) 3 / 3 % 8 = 0) = true then (12 : Int) else 1 + sqF (cellF ns 0) 3 % 3).toNat).length ≤ 12 := by
    rw [namesF_len]
    split <;> omega
  refine s_set w1 (ed_call (ea_cons (ed_ixL (ed_var rfl) ed_int rfl) (ea_cons (ed_ixL (ed_lst (ea_cons (ed_add ed_int (ed_mod (ed_ixL (ed_var rfl) ed_int rfl) ed_int (by walk_at "sd"))) (ea_cons ed_int ea_nil))) (ed_intB (ea_cons (ed_eq (ed_mod (ed_div (ed_ixL (ed_var rfl) ed_int rfl) ed_int (by walk_at "sd")) ed_int (by walk_at "sd")) ed_int) ea_nil)) at2bi) ea_nil)) ⟨_, _, rfl, ⟨(sqF_lt _ _).1, by split <;> omega, by split <;> omega⟩, rfl⟩) fun v2 H2 w2 => ?_
  have hstr := namesF_ok (sqF (cellF ns 0) 2) (if decide (sqF (cellF ns 0) 3 / 3 % 8 = 0) = true then (12 : Int) else 1 + sqF (cellF ns 0) 3 % 3).toNat
  generalize namesF (sqF (cellF ns 0) 2) (if decide (sqF (cellF ns 0) 3 / 3 % 8 = 0) = true then (12 : Int) else 1 + sqF (cellF ns 0) 3 % 3).toNat = nm at *
  obtain ⟨hnm, hnm2⟩ := hlen
  
  refine s_set w2 (ed_is (ed_call (ea_cons (ed_call (ea_cons (ed_call (ea_cons (ed_var rfl) (ea_cons ed_int ea_nil)) ⟨_, _, rfl, (by walk_at "sd"), rfl⟩) (ea_cons ed_int ea_nil)) ⟨_, _, rfl, (by walk_at "sd"), rfl⟩) (ea_cons (ed_var rfl) ea_nil)) ⟨_, _, rfl, by omega, rfl⟩) (e := .dct (knownF (sqF (cellF ns 1) 2) nm nm.length)) (by rfl)) fun v3 H3 w3 => ?_
  have hk := knownF_ok (sqF (cellF ns 1) 2) (ns := nm) nm.length (Nat.le_refl _)
  rw [List.take_length] at hk
  have hkl := knownF_len (sqF (cellF ns 1) 2) nm nm.length
  generalize knownF (sqF (cellF ns 1) 2) nm nm.length = ks at *
  
  refine s_set w3 (ed_call (ea_cons (ed_var rfl) (ea_cons (ed_mod (ed_call (ea_cons (ed_var rfl) (ea_cons ed_int ea_nil)) ⟨_, _, rfl, (by walk_at "sd"), rfl⟩) ed_int (by walk_at "sd")) ea_nil)) ⟨_, _, _, rfl, by assumption, by omega, by omega, rfl⟩) fun v4 H4 w4 => ?_
  have hh := heldF_all hk (cellF ns 3 % 2147483647)
  generalize (heldF ks (cellF ns 3 % 2147483647) ks.length).2 = hs at *
  refine s_set w4 (ed_call (ea_cons (ed_var rfl) (ea_cons (ed_var rfl) (ea_cons (ed_var rfl) ea_nil))) ⟨ns, nm, ks, rfl, hnm, hk, rfl⟩) fun v5 H5 w5 => ?_
  obtain ⟨hc, hd1, hd2⟩ := toldF_ok (fun k => sqF (cellF ns 2) (k + 2)) ks hnm
  generalize toldF (fun k => sqF (cellF ns 2) (k + 2)) nm ks = c at *
  refine s_set w5 (ed_dictC (ea_cons (ed_var rfl) ea_nil)) fun v6 H6 w6 => ?_
  refine s_set w6 (ed_call (ea_cons (ed_var rfl) ea_nil) ⟨_, _, rfl, by assumption, rfl⟩) fun v7 H7 w7 => ?_
  have hc' := contra_ok hc
  have hd' := contra_deep hd1 hd2
  obtain ⟨hd3, hd4⟩ := hd'
  have hlay := Cn.lay hstr (contraF c) hc' hd3 hd4
  have hcon : ∀ b, holdsF hs c = some b → holdsF hs (contraF c) = some (!b) := fun b h => contra_holds hc h
  refine s_if0F w7 (et_is (et_or (et_not (et_B (ed_isi (ea_cons (ed_var rfl) (ea_cons ed_ty ea_nil)) (by walk_at "sd")))) fun hb => (et_test (ed_neD (ed_var rfl) (ed_call (ea_cons (ed_var rfl) ea_nil) ⟨_, nm, rfl, hc, rfl⟩) hlay.1 hlay.1 hlay.2.1 hlay.2.1))) (b := false) (by rw [hlay.2.2]; rfl)) rfl fun H8 w8 => ?_
  have hkl' : ks.length ≤ 100 := by omega
  have hok := hh.ok
  generalize contraF c = c2 at *
  refine s_if0F w8 (et_or (et_not (et_B (ed_call (ea_cons (ed_var rfl) (ea_cons (ed_var rfl) (ea_cons (ed_var rfl) ea_nil))) ⟨_, _, _, nm, rfl, by assumption, by assumption, by assumption, by assumption, by omega, by assumption, rfl⟩))) fun hb => (et_not (et_B (ed_call (ea_cons (ed_var rfl) (ea_cons (ed_var rfl) (ea_cons (ed_var rfl) ea_nil))) ⟨_, _, _, nm, rfl, by assumption, by assumption, by assumption, by assumption, by omega, by assumption, rfl⟩)))) (by rfl) fun H9 w9 => ?_
  refine s_if0F w9 (b := false) ?_ rfl fun H10 w10 => ?_
  · cases z : holdsF hs c with
    | none => exact et_is (et_and (b := false) (et_test (ed_notN (ed_is (ed_call (ea_cons (ed_var rfl) (ea_cons (ed_var rfl) ea_nil)) ⟨c, hs, nm, rfl, hc, hok, hd1, hd2, rfl⟩) (by rw [z]; rfl : _ = Dt.non)) ed_non)) fun hb => absurd hb (by decide)) (by rfl)
    | some b => exact et_is (et_and (et_test (ed_notN (ed_call (ea_cons (ed_var rfl) (ea_cons (ed_var rfl) ea_nil)) ⟨c, hs, nm, rfl, hc, hok, hd1, hd2, rfl⟩) ed_non)) fun _ => et_test (ed_eqB (ed_is (ed_call (ea_cons (ed_var rfl) (ea_cons (ed_var rfl) ea_nil)) ⟨c, hs, nm, rfl, hc, hok, hd1, hd2, rfl⟩) (by rw [z]; rfl : _ = Dt.bl b)) (ed_is (ed_call (ea_cons (ed_var rfl) (ea_cons (ed_var rfl) ea_nil)) ⟨c2, hs, nm, rfl, hc', hok, hd3, hd4, rfl⟩) (by rw [hcon b z]; rfl : _ = Dt.bl (!b))))) (by cases b <;> simp)
  exact x_ret w10 (ed_eqX (ed_var rfl) (ed_var rfl) hk.self) q
end
theorem all_mk {l : PySem.W.OpenLaw} {w : World} {K : PySem.W.Frag} {h : Heap} {mg : Str → Option Value} {fa f0 f1 f2 f3 f4 f5 f6 f7 f8 f9 f10 f11 f12 f13 f14 f15 f16 f17 f18 f19 f20 f21 f22 f23 f24 f25 f26 f27 f28 f29 f30 f31 f32 f33 f34 f35 f36 : Addr} (X : K.In h) (G : h.Ns mainGlobals mg) (hfa : mg "law" = some (.ref fa))
    {od0 an0 : Option Addr} {sl0 : Array (Option Value)} {oc0 kV0 dc0 pm0 cd0 ct0 : Value} {od1 an1 : Option Addr} {sl1 : Array (Option Value)} {oc1 kV1 dc1 pm1 cd1 ct1 : Value} {od2 an2 : Option Addr} {sl2 : Array (Option Value)} {oc2 kV2 dc2 pm2 cd2 ct2 : Value} {od3 an3 : Option Addr} {sl3 : Array (Option Value)} {oc3 kV3 dc3 pm3 cd3 ct3 : Value} {od4 an4 : Option Addr} {sl4 : Array (Option Value)} {oc4 kV4 dc4 pm4 cd4 ct4 : Value} {od5 an5 : Option Addr} {sl5 : Array (Option Value)} {oc5 kV5 dc5 pm5 cd5 ct5 : Value} {od6 an6 : Option Addr} {sl6 : Array (Option Value)} {oc6 kV6 dc6 pm6 cd6 ct6 : Value} {od7 an7 : Option Addr} {sl7 : Array (Option Value)} {oc7 kV7 dc7 pm7 cd7 ct7 : Value} {od8 an8 : Option Addr} {sl8 : Array (Option Value)} {oc8 kV8 dc8 pm8 cd8 ct8 : Value} {od9 an9 : Option Addr} {sl9 : Array (Option Value)} {oc9 kV9 dc9 pm9 cd9 ct9 : Value} {od10 an10 : Option Addr} {sl10 : Array (Option Value)} {oc10 kV10 dc10 pm10 cd10 ct10 : Value} {od11 an11 : Option Addr} {sl11 : Array (Option Value)} {oc11 kV11 dc11 pm11 cd11 ct11 : Value} {od12 an12 : Option Addr} {sl12 : Array (Option Value)} {oc12 kV12 dc12 pm12 cd12 ct12 : Value} {od13 an13 : Option Addr} {sl13 : Array (Option Value)} {oc13 kV13 dc13 pm13 cd13 ct13 : Value} {od14 an14 : Option Addr} {sl14 : Array (Option Value)} {oc14 kV14 dc14 pm14 cd14 ct14 : Value} {od15 an15 : Option Addr} {sl15 : Array (Option Value)} {oc15 kV15 dc15 pm15 cd15 ct15 : Value} {od16 an16 : Option Addr} {sl16 : Array (Option Value)} {oc16 kV16 dc16 pm16 cd16 ct16 : Value} {od17 an17 : Option Addr} {sl17 : Array (Option Value)} {oc17 kV17 dc17 pm17 cd17 ct17 : Value} {od18 an18 : Option Addr} {sl18 : Array (Option Value)} {oc18 kV18 dc18 pm18 cd18 ct18 : Value} {od19 an19 : Option Addr} {sl19 : Array (Option Value)} {oc19 kV19 dc19 pm19 cd19 ct19 : Value} {od20 an20 : Option Addr} {sl20 : Array (Option Value)} {oc20 kV20 dc20 pm20 cd20 ct20 : Value} {od21 an21 : Option Addr} {sl21 : Array (Option Value)} {oc21 kV21 dc21 pm21 cd21 ct21 : Value} {od22 an22 : Option Addr} {sl22 : Array (Option Value)} {oc22 kV22 dc22 pm22 cd22 ct22 : Value} {od23 an23 : Option Addr} {sl23 : Array (Option Value)} {oc23 kV23 dc23 pm23 cd23 ct23 : Value} {od24 an24 : Option Addr} {sl24 : Array (Option Value)} {oc24 kV24 dc24 pm24 cd24 ct24 : Value} {od25 an25 : Option Addr} {sl25 : Array (Option Value)} {oc25 kV25 dc25 pm25 cd25 ct25 : Value} {od26 an26 : Option Addr} {sl26 : Array (Option Value)} {oc26 kV26 dc26 pm26 cd26 ct26 : Value} {od27 an27 : Option Addr} {sl27 : Array (Option Value)} {oc27 kV27 dc27 pm27 cd27 ct27 : Value} {od28 an28 : Option Addr} {sl28 : Array (Option Value)} {oc28 kV28 dc28 pm28 cd28 ct28 : Value} {od29 an29 : Option Addr} {sl29 : Array (Option Value)} {oc29 kV29 dc29 pm29 cd29 ct29 : Value} {od30 an30 : Option Addr} {sl30 : Array (Option Value)} {oc30 kV30 dc30 pm30 cd30 ct30 : Value} {od31 an31 : Option Addr} {sl31 : Array (Option Value)} {oc31 kV31 dc31 pm31 cd31 ct31 : Value} {od32 an32 : Option Addr} {sl32 : Array (Option Value)} {oc32 kV32 dc32 pm32 cd32 ct32 : Value} {od33 an33 : Option Addr} {sl33 : Array (Option Value)} {oc33 kV33 dc33 pm33 cd33 ct33 : Value} {od34 an34 : Option Addr} {sl34 : Array (Option Value)} {oc34 kV34 dc34 pm34 cd34 ct34 : Value} {od35 an35 : Option Addr} {sl35 : Array (Option Value)} {oc35 kV35 dc35 pm35 cd35 ct35 : Value} {od36 an36 : Option Addr} {sl36 : Array (Option Value)} {oc36 kV36 dc36 pm36 cd36 ct36 : Value}
    (a0 : PySem.W.nsIn K mainGlobals "cut" = some (some (.ref f0))) (l0 : K.lookup f0 = some ⟨oc0, od0, .func (PySem.W.fnOf "cut" "cut" (defArgs s_cut) (defBody s_cut) (defScope s_cut) .none kV0 dc0 pm0 an0 cd0 ct0), sl0⟩) (c0 : PySem.W.codeIn K cd0 "cut" = true) (k0 : PySem.W.keepIn K (.ref f0) = true)
    (a1 : PySem.W.nsIn K mainGlobals "plus" = some (some (.ref f1))) (l1 : K.lookup f1 = some ⟨oc1, od1, .func (PySem.W.fnOf "plus" "plus" (defArgs s_plus) (defBody s_plus) (defScope s_plus) .none kV1 dc1 pm1 an1 cd1 ct1), sl1⟩) (c1 : PySem.W.codeIn K cd1 "plus" = true) (k1 : PySem.W.keepIn K (.ref f1) = true)
    (a2 : PySem.W.nsIn K mainGlobals "minus" = some (some (.ref f2))) (l2 : K.lookup f2 = some ⟨oc2, od2, .func (PySem.W.fnOf "minus" "minus" (defArgs s_minus) (defBody s_minus) (defScope s_minus) .none kV2 dc2 pm2 an2 cd2 ct2), sl2⟩) (c2 : PySem.W.codeIn K cd2 "minus" = true) (k2 : PySem.W.keepIn K (.ref f2) = true)
    (a3 : PySem.W.nsIn K mainGlobals "times" = some (some (.ref f3))) (l3 : K.lookup f3 = some ⟨oc3, od3, .func (PySem.W.fnOf "times" "times" (defArgs s_times) (defBody s_times) (defScope s_times) .none kV3 dc3 pm3 an3 cd3 ct3), sl3⟩) (c3 : PySem.W.codeIn K cd3 "times" = true) (k3 : PySem.W.keepIn K (.ref f3) = true)
    (a4 : PySem.W.nsIn K mainGlobals "rest" = some (some (.ref f4))) (l4 : K.lookup f4 = some ⟨oc4, od4, .func (PySem.W.fnOf "rest" "rest" (defArgs s_rest) (defBody s_rest) (defScope s_rest) .none kV4 dc4 pm4 an4 cd4 ct4), sl4⟩) (c4 : PySem.W.codeIn K cd4 "rest" = true) (k4 : PySem.W.keepIn K (.ref f4) = true)
    (a5 : PySem.W.nsIn K mainGlobals "met" = some (some (.ref f5))) (l5 : K.lookup f5 = some ⟨oc5, od5, .func (PySem.W.fnOf "met" "met" (defArgs s_met) (defBody s_met) (defScope s_met) .none kV5 dc5 pm5 an5 cd5 ct5), sl5⟩) (c5 : PySem.W.codeIn K cd5 "met" = true) (k5 : PySem.W.keepIn K (.ref f5) = true)
    (a6 : PySem.W.nsIn K mainGlobals "reach" = some (some (.ref f6))) (l6 : K.lookup f6 = some ⟨oc6, od6, .func (PySem.W.fnOf "reach" "reach" (defArgs s_reach) (defBody s_reach) (defScope s_reach) .none kV6 dc6 pm6 an6 cd6 ct6), sl6⟩) (c6 : PySem.W.codeIn K cd6 "reach" = true) (k6 : PySem.W.keepIn K (.ref f6) = true)
    (a7 : PySem.W.nsIn K mainGlobals "contrary" = some (some (.ref f7))) (l7 : K.lookup f7 = some ⟨oc7, od7, .func (PySem.W.fnOf "contrary" "contrary" (defArgs s_contrary) (defBody s_contrary) (defScope s_contrary) .none kV7 dc7 pm7 an7 cd7 ct7), sl7⟩) (c7 : PySem.W.codeIn K cd7 "contrary" = true) (k7 : PySem.W.keepIn K (.ref f7) = true)
    (a8 : PySem.W.nsIn K mainGlobals "beside" = some (some (.ref f8))) (l8 : K.lookup f8 = some ⟨oc8, od8, .func (PySem.W.fnOf "beside" "beside" (defArgs s_beside) (defBody s_beside) (defScope s_beside) .none kV8 dc8 pm8 an8 cd8 ct8), sl8⟩) (c8 : PySem.W.codeIn K cd8 "beside" = true) (k8 : PySem.W.keepIn K (.ref f8) = true)
    (a9 : PySem.W.nsIn K mainGlobals "sides" = some (some (.ref f9))) (l9 : K.lookup f9 = some ⟨oc9, od9, .func (PySem.W.fnOf "sides" "sides" (defArgs s_sides) (defBody s_sides) (defScope s_sides) .none kV9 dc9 pm9 an9 cd9 ct9), sl9⟩) (c9 : PySem.W.codeIn K cd9 "sides" = true) (k9 : PySem.W.keepIn K (.ref f9) = true)
    (a10 : PySem.W.nsIn K mainGlobals "kept" = some (some (.ref f10))) (l10 : K.lookup f10 = some ⟨oc10, od10, .func (PySem.W.fnOf "kept" "kept" (defArgs s_kept) (defBody s_kept) (defScope s_kept) .none kV10 dc10 pm10 an10 cd10 ct10), sl10⟩) (c10 : PySem.W.codeIn K cd10 "kept" = true) (k10 : PySem.W.keepIn K (.ref f10) = true)
    (a11 : PySem.W.nsIn K mainGlobals "_law_cell_at" = some (some (.ref f11))) (l11 : K.lookup f11 = some ⟨oc11, od11, .func (PySem.W.fnOf "_law_cell_at" "_law_cell_at" (defArgs s_law_cell_at) (defBody s_law_cell_at) (defScope s_law_cell_at) .none kV11 dc11 pm11 an11 cd11 ct11), sl11⟩) (c11 : PySem.W.codeIn K cd11 "_law_cell_at" = true) (k11 : PySem.W.keepIn K (.ref f11) = true)
    (a12 : PySem.W.nsIn K mainGlobals "_law_stream" = some (some (.ref f12))) (l12 : K.lookup f12 = some ⟨oc12, od12, .func (PySem.W.fnOf "_law_stream" "_law_stream" (defArgs s_law_stream) (defBody s_law_stream) (defScope s_law_stream) .none kV12 dc12 pm12 an12 cd12 ct12), sl12⟩) (c12 : PySem.W.codeIn K cd12 "_law_stream" = true) (k12 : PySem.W.keepIn K (.ref f12) = true)
    (a13 : PySem.W.nsIn K mainGlobals "_law_number" = some (some (.ref f13))) (l13 : K.lookup f13 = some ⟨oc13, od13, .func (PySem.W.fnOf "_law_number" "_law_number" (defArgs s_law_number) (defBody s_law_number) (defScope s_law_number) .none kV13 dc13 pm13 an13 cd13 ct13), sl13⟩) (c13 : PySem.W.codeIn K cd13 "_law_number" = true) (k13 : PySem.W.keepIn K (.ref f13) = true)
    (a14 : PySem.W.nsIn K mainGlobals "_law_names" = some (some (.ref f14))) (l14 : K.lookup f14 = some ⟨oc14, od14, .func (PySem.W.fnOf "_law_names" "_law_names" (defArgs s_law_names) (defBody s_law_names) (defScope s_law_names) .none kV14 dc14 pm14 an14 cd14 ct14), sl14⟩) (c14 : PySem.W.codeIn K cd14 "_law_names" = true) (k14 : PySem.W.keepIn K (.ref f14) = true)
    (a15 : PySem.W.nsIn K mainGlobals "_law_leaf" = some (some (.ref f15))) (l15 : K.lookup f15 = some ⟨oc15, od15, .func (PySem.W.fnOf "_law_leaf" "_law_leaf" (defArgs s_law_leaf) (defBody s_law_leaf) (defScope s_law_leaf) .none kV15 dc15 pm15 an15 cd15 ct15), sl15⟩) (c15 : PySem.W.codeIn K cd15 "_law_leaf" = true) (k15 : PySem.W.keepIn K (.ref f15) = true)
    (a16 : PySem.W.nsIn K mainGlobals "_law_tree" = some (some (.ref f16))) (l16 : K.lookup f16 = some ⟨oc16, od16, .func (PySem.W.fnOf "_law_tree" "_law_tree" (defArgs s_law_tree) (defBody s_law_tree) (defScope s_law_tree) .none kV16 dc16 pm16 an16 cd16 ct16), sl16⟩) (c16 : PySem.W.codeIn K cd16 "_law_tree" = true) (k16 : PySem.W.keepIn K (.ref f16) = true)
    (a17 : PySem.W.nsIn K mainGlobals "_law_expression" = some (some (.ref f17))) (l17 : K.lookup f17 = some ⟨oc17, od17, .func (PySem.W.fnOf "_law_expression" "_law_expression" (defArgs s_law_expression) (defBody s_law_expression) (defScope s_law_expression) .none kV17 dc17 pm17 an17 cd17 ct17), sl17⟩) (c17 : PySem.W.codeIn K cd17 "_law_expression" = true) (k17 : PySem.W.keepIn K (.ref f17) = true)
    (a18 : PySem.W.nsIn K mainGlobals "_law_condition" = some (some (.ref f18))) (l18 : K.lookup f18 = some ⟨oc18, od18, .func (PySem.W.fnOf "_law_condition" "_law_condition" (defArgs s_law_condition) (defBody s_law_condition) (defScope s_law_condition) .none kV18 dc18 pm18 an18 cd18 ct18), sl18⟩) (c18 : PySem.W.codeIn K cd18 "_law_condition" = true) (k18 : PySem.W.keepIn K (.ref f18) = true)
    (a19 : PySem.W.nsIn K mainGlobals "_law_worth" = some (some (.ref f19))) (l19 : K.lookup f19 = some ⟨oc19, od19, .func (PySem.W.fnOf "_law_worth" "_law_worth" (defArgs s_law_worth) (defBody s_law_worth) (defScope s_law_worth) .none kV19 dc19 pm19 an19 cd19 ct19), sl19⟩) (c19 : PySem.W.codeIn K cd19 "_law_worth" = true) (k19 : PySem.W.keepIn K (.ref f19) = true)
    (a20 : PySem.W.nsIn K mainGlobals "_law_holds" = some (some (.ref f20))) (l20 : K.lookup f20 = some ⟨oc20, od20, .func (PySem.W.fnOf "_law_holds" "_law_holds" (defArgs s_law_holds) (defBody s_law_holds) (defScope s_law_holds) .none kV20 dc20 pm20 an20 cd20 ct20), sl20⟩) (c20 : PySem.W.codeIn K cd20 "_law_holds" = true) (k20 : PySem.W.keepIn K (.ref f20) = true)
    (a21 : PySem.W.nsIn K mainGlobals "_law_whole" = some (some (.ref f21))) (l21 : K.lookup f21 = some ⟨oc21, od21, .func (PySem.W.fnOf "_law_whole" "_law_whole" (defArgs s_law_whole) (defBody s_law_whole) (defScope s_law_whole) .none kV21 dc21 pm21 an21 cd21 ct21), sl21⟩) (c21 : PySem.W.codeIn K cd21 "_law_whole" = true) (k21 : PySem.W.keepIn K (.ref f21) = true)
    (a22 : PySem.W.nsIn K mainGlobals "_law_is_stretch" = some (some (.ref f22))) (l22 : K.lookup f22 = some ⟨oc22, od22, .func (PySem.W.fnOf "_law_is_stretch" "_law_is_stretch" (defArgs s_law_is_stretch) (defBody s_law_is_stretch) (defScope s_law_is_stretch) .none kV22 dc22 pm22 an22 cd22 ct22), sl22⟩) (c22 : PySem.W.codeIn K cd22 "_law_is_stretch" = true) (k22 : PySem.W.keepIn K (.ref f22) = true)
    (a23 : PySem.W.nsIn K mainGlobals "_law_stretch" = some (some (.ref f23))) (l23 : K.lookup f23 = some ⟨oc23, od23, .func (PySem.W.fnOf "_law_stretch" "_law_stretch" (defArgs s_law_stretch) (defBody s_law_stretch) (defScope s_law_stretch) .none kV23 dc23 pm23 an23 cd23 ct23), sl23⟩) (c23 : PySem.W.codeIn K cd23 "_law_stretch" = true) (k23 : PySem.W.keepIn K (.ref f23) = true)
    (a24 : PySem.W.nsIn K mainGlobals "_law_known" = some (some (.ref f24))) (l24 : K.lookup f24 = some ⟨oc24, od24, .func (PySem.W.fnOf "_law_known" "_law_known" (defArgs s_law_known) (defBody s_law_known) (defScope s_law_known) .none kV24 dc24 pm24 an24 cd24 ct24), sl24⟩) (c24 : PySem.W.codeIn K cd24 "_law_known" = true) (k24 : PySem.W.keepIn K (.ref f24) = true)
    (a25 : PySem.W.nsIn K mainGlobals "_law_one_of" = some (some (.ref f25))) (l25 : K.lookup f25 = some ⟨oc25, od25, .func (PySem.W.fnOf "_law_one_of" "_law_one_of" (defArgs s_law_one_of) (defBody s_law_one_of) (defScope s_law_one_of) .none kV25 dc25 pm25 an25 cd25 ct25), sl25⟩) (c25 : PySem.W.codeIn K cd25 "_law_one_of" = true) (k25 : PySem.W.keepIn K (.ref f25) = true)
    (a26 : PySem.W.nsIn K mainGlobals "_law_held" = some (some (.ref f26))) (l26 : K.lookup f26 = some ⟨oc26, od26, .func (PySem.W.fnOf "_law_held" "_law_held" (defArgs s_law_held) (defBody s_law_held) (defScope s_law_held) .none kV26 dc26 pm26 an26 cd26 ct26), sl26⟩) (c26 : PySem.W.codeIn K cd26 "_law_held" = true) (k26 : PySem.W.keepIn K (.ref f26) = true)
    (a27 : PySem.W.nsIn K mainGlobals "_law_cut" = some (some (.ref f27))) (l27 : K.lookup f27 = some ⟨oc27, od27, .func (PySem.W.fnOf "_law_cut" "_law_cut" (defArgs s_law_cut) (defBody s_law_cut) (defScope s_law_cut) .none kV27 dc27 pm27 an27 cd27 ct27), sl27⟩) (c27 : PySem.W.codeIn K cd27 "_law_cut" = true) (k27 : PySem.W.keepIn K (.ref f27) = true)
    (a28 : PySem.W.nsIn K mainGlobals "_law_reach" = some (some (.ref f28))) (l28 : K.lookup f28 = some ⟨oc28, od28, .func (PySem.W.fnOf "_law_reach" "_law_reach" (defArgs s_law_reach) (defBody s_law_reach) (defScope s_law_reach) .none kV28 dc28 pm28 an28 cd28 ct28), sl28⟩) (c28 : PySem.W.codeIn K cd28 "_law_reach" = true) (k28 : PySem.W.keepIn K (.ref f28) = true)
    (a29 : PySem.W.nsIn K mainGlobals "_law_met" = some (some (.ref f29))) (l29 : K.lookup f29 = some ⟨oc29, od29, .func (PySem.W.fnOf "_law_met" "_law_met" (defArgs s_law_met) (defBody s_law_met) (defScope s_law_met) .none kV29 dc29 pm29 an29 cd29 ct29), sl29⟩) (c29 : PySem.W.codeIn K cd29 "_law_met" = true) (k29 : PySem.W.keepIn K (.ref f29) = true)
    (a30 : PySem.W.nsIn K mainGlobals "_law_side" = some (some (.ref f30))) (l30 : K.lookup f30 = some ⟨oc30, od30, .func (PySem.W.fnOf "_law_side" "_law_side" (defArgs s_law_side) (defBody s_law_side) (defScope s_law_side) .none kV30 dc30 pm30 an30 cd30 ct30), sl30⟩) (c30 : PySem.W.codeIn K cd30 "_law_side" = true) (k30 : PySem.W.keepIn K (.ref f30) = true)
    (a31 : PySem.W.nsIn K mainGlobals "_law_kept" = some (some (.ref f31))) (l31 : K.lookup f31 = some ⟨oc31, od31, .func (PySem.W.fnOf "_law_kept" "_law_kept" (defArgs s_law_kept) (defBody s_law_kept) (defScope s_law_kept) .none kV31 dc31 pm31 an31 cd31 ct31), sl31⟩) (c31 : PySem.W.codeIn K cd31 "_law_kept" = true) (k31 : PySem.W.keepIn K (.ref f31) = true)
    (a32 : PySem.W.nsIn K mainGlobals "_law_contrary" = some (some (.ref f32))) (l32 : K.lookup f32 = some ⟨oc32, od32, .func (PySem.W.fnOf "_law_contrary" "_law_contrary" (defArgs s_law_contrary) (defBody s_law_contrary) (defScope s_law_contrary) .none kV32 dc32 pm32 an32 cd32 ct32), sl32⟩) (c32 : PySem.W.codeIn K cd32 "_law_contrary" = true) (k32 : PySem.W.keepIn K (.ref f32) = true)
    (a33 : PySem.W.nsIn K mainGlobals "_law_same_dict" = some (some (.ref f33))) (l33 : K.lookup f33 = some ⟨oc33, od33, .func (PySem.W.fnOf "_law_same_dict" "_law_same_dict" (defArgs s_law_same_dict) (defBody s_law_same_dict) (defScope s_law_same_dict) .none kV33 dc33 pm33 an33 cd33 ct33), sl33⟩) (c33 : PySem.W.codeIn K cd33 "_law_same_dict" = true) (k33 : PySem.W.keepIn K (.ref f33) = true)
    (a34 : PySem.W.nsIn K mainGlobals "_law_told" = some (some (.ref f34))) (l34 : K.lookup f34 = some ⟨oc34, od34, .func (PySem.W.fnOf "_law_told" "_law_told" (defArgs s_law_told) (defBody s_law_told) (defScope s_law_told) .none kV34 dc34 pm34 an34 cd34 ct34), sl34⟩) (c34 : PySem.W.codeIn K cd34 "_law_told" = true) (k34 : PySem.W.keepIn K (.ref f34) = true)
    (a35 : PySem.W.nsIn K mainGlobals "_law_good" = some (some (.ref f35))) (l35 : K.lookup f35 = some ⟨oc35, od35, .func (PySem.W.fnOf "_law_good" "_law_good" (defArgs s_law_good) (defBody s_law_good) (defScope s_law_good) .none kV35 dc35 pm35 an35 cd35 ct35), sl35⟩) (c35 : PySem.W.codeIn K cd35 "_law_good" = true) (k35 : PySem.W.keepIn K (.ref f35) = true)
    (a36 : PySem.W.nsIn K mainGlobals "law" = some (some (.ref f36))) (l36 : K.lookup f36 = some ⟨oc36, od36, .func (PySem.W.fnOf "law" "law" (defArgs s_law) (defBody s_law) (defScope s_law) .none kV36 dc36 pm36 an36 cd36 ct36), sl36⟩) (c36 : PySem.W.codeIn K cd36 "law" = true) (k36 : PySem.W.keepIn K (.ref f36) = true)
    (z0 : PySem.W.nsIn K mainGlobals "bool" = some none)
    (z1 : PySem.W.nsIn K mainGlobals "dict" = some none)
    (z2 : PySem.W.nsIn K mainGlobals "int" = some none)
    (z3 : PySem.W.nsIn K mainGlobals "isinstance" = some none)
    (z4 : PySem.W.nsIn K mainGlobals "len" = some none)
    (z5 : PySem.W.nsIn K mainGlobals "max" = some none)
    (z6 : PySem.W.nsIn K mainGlobals "min" = some none)
    (z7 : PySem.W.nsIn K mainGlobals "range" = some none)
    (z8 : PySem.W.nsIn K mainGlobals "sorted" = some none)
    (z9 : PySem.W.nsIn K mainGlobals "str" = some none)
    (z10 : PySem.W.nsIn K mainGlobals "tuple" = some none)
    (z11 : PySem.W.nsIn K mainGlobals "zip" = some none)
    {tg0 : Tok} (y0 : PySem.W.nsIn K mainGlobals "LIMIT" = some (some (.int 1000000 tg0)))
    : ∃ fd : FuncData, (∀ (s : Shared) (v : Value), BindsTo s fd ⟨[v], []⟩ [("_law_script", v)]) ∧ ∀ base : Heap, K.In base → base.Ns mainGlobals mg → FnOk l.prog w K mg base CX0 12 fa fd ["_law_script"] (SpR K R_law) := by
  have e := hfa.symm.trans (PySem.W.mg_of X G a36)
  cases e
  have B : Free mg BLT := (.cons (PySem.W.mg_none_of X G z0) (.cons (PySem.W.mg_none_of X G z1) (.cons (PySem.W.mg_none_of X G z2) (.cons (PySem.W.mg_none_of X G z3) (.cons (PySem.W.mg_none_of X G z4) (.cons (PySem.W.mg_none_of X G z5) (.cons (PySem.W.mg_none_of X G z6) (.cons (PySem.W.mg_none_of X G z7) (.cons (PySem.W.mg_none_of X G z8) (.cons (PySem.W.mg_none_of X G z9) (.cons (PySem.W.mg_none_of X G z10) (.cons (PySem.W.mg_none_of X G z11) .nil))))))))))))
  have F0 : Df K mg "cut" s_cut ["low", "high"] _ _ := ⟨fun_mk (st := s_cut) l0 c0 k0, PySem.W.mg_of X G a0, (fun_mk (st := s_cut) l0 c0 k0).binds (ps := ["low", "high"]) fun _ _ _ _ _ _ us hl => match us, hl with | [_, _], _ => rfl⟩
  have F1 : Df K mg "plus" s_plus ["one", "other"] _ _ := ⟨fun_mk (st := s_plus) l1 c1 k1, PySem.W.mg_of X G a1, (fun_mk (st := s_plus) l1 c1 k1).binds (ps := ["one", "other"]) fun _ _ _ _ _ _ us hl => match us, hl with | [_, _], _ => rfl⟩
  have F2 : Df K mg "minus" s_minus ["one", "other"] _ _ := ⟨fun_mk (st := s_minus) l2 c2 k2, PySem.W.mg_of X G a2, (fun_mk (st := s_minus) l2 c2 k2).binds (ps := ["one", "other"]) fun _ _ _ _ _ _ us hl => match us, hl with | [_, _], _ => rfl⟩
  have F3 : Df K mg "times" s_times ["one", "other"] _ _ := ⟨fun_mk (st := s_times) l3 c3 k3, PySem.W.mg_of X G a3, (fun_mk (st := s_times) l3 c3 k3).binds (ps := ["one", "other"]) fun _ _ _ _ _ _ us hl => match us, hl with | [_, _], _ => rfl⟩
  have F4 : Df K mg "rest" s_rest ["one", "by"] _ _ := ⟨fun_mk (st := s_rest) l4 c4 k4, PySem.W.mg_of X G a4, (fun_mk (st := s_rest) l4 c4 k4).binds (ps := ["one", "by"]) fun _ _ _ _ _ _ us hl => match us, hl with | [_, _], _ => rfl⟩
  have F5 : Df K mg "met" s_met ["one", "other"] _ _ := ⟨fun_mk (st := s_met) l5 c5 k5, PySem.W.mg_of X G a5, (fun_mk (st := s_met) l5 c5 k5).binds (ps := ["one", "other"]) fun _ _ _ _ _ _ us hl => match us, hl with | [_, _], _ => rfl⟩
  have F6 : Df K mg "reach" s_reach ["expression", "known"] _ _ := ⟨fun_mk (st := s_reach) l6 c6 k6, PySem.W.mg_of X G a6, (fun_mk (st := s_reach) l6 c6 k6).binds (ps := ["expression", "known"]) fun _ _ _ _ _ _ us hl => match us, hl with | [_, _], _ => rfl⟩
  have F7 : Df K mg "contrary" s_contrary ["condition"] _ _ := ⟨fun_mk (st := s_contrary) l7 c7 k7, PySem.W.mg_of X G a7, (fun_mk (st := s_contrary) l7 c7 k7).binds (ps := ["condition"]) fun _ _ _ _ _ _ us hl => match us, hl with | [_], _ => rfl⟩
  have F8 : Df K mg "beside" s_beside ["one", "other"] _ _ := ⟨fun_mk (st := s_beside) l8 c8 k8, PySem.W.mg_of X G a8, (fun_mk (st := s_beside) l8 c8 k8).binds (ps := ["one", "other"]) fun _ _ _ _ _ _ us hl => match us, hl with | [_, _], _ => rfl⟩
  have F9 : Df K mg "sides" s_sides ["sign", "left", "right"] _ _ := ⟨fun_mk (st := s_sides) l9 c9 k9, PySem.W.mg_of X G a9, (fun_mk (st := s_sides) l9 c9 k9).binds (ps := ["sign", "left", "right"]) fun _ _ _ _ _ _ us hl => match us, hl with | [_, _, _], _ => rfl⟩
  have F10 : Df K mg "kept" s_kept ["condition", "known"] _ _ := ⟨fun_mk (st := s_kept) l10 c10 k10, PySem.W.mg_of X G a10, (fun_mk (st := s_kept) l10 c10 k10).binds (ps := ["condition", "known"]) fun _ _ _ _ _ _ us hl => match us, hl with | [_, _], _ => rfl⟩
  have F11 : Df K mg "_law_cell_at" s_law_cell_at ["_law_script", "_law_k"] _ _ := ⟨fun_mk (st := s_law_cell_at) l11 c11 k11, PySem.W.mg_of X G a11, (fun_mk (st := s_law_cell_at) l11 c11 k11).binds (ps := ["_law_script", "_law_k"]) fun _ _ _ _ _ _ us hl => match us, hl with | [_, _], _ => rfl⟩
  have F12 : Df K mg "_law_stream" s_law_stream ["_law_cell", "_law_many"] _ _ := ⟨fun_mk (st := s_law_stream) l12 c12 k12, PySem.W.mg_of X G a12, (fun_mk (st := s_law_stream) l12 c12 k12).binds (ps := ["_law_cell", "_law_many"]) fun _ _ _ _ _ _ us hl => match us, hl with | [_, _], _ => rfl⟩
  have F13 : Df K mg "_law_number" s_law_number ["_law_x"] _ _ := ⟨fun_mk (st := s_law_number) l13 c13 k13, PySem.W.mg_of X G a13, (fun_mk (st := s_law_number) l13 c13 k13).binds (ps := ["_law_x"]) fun _ _ _ _ _ _ us hl => match us, hl with | [_], _ => rfl⟩
  have F14 : Df K mg "_law_names" s_law_names ["_law_cell", "_law_many"] _ _ := ⟨fun_mk (st := s_law_names) l14 c14 k14, PySem.W.mg_of X G a14, (fun_mk (st := s_law_names) l14 c14 k14).binds (ps := ["_law_cell", "_law_many"]) fun _ _ _ _ _ _ us hl => match us, hl with | [_, _], _ => rfl⟩
  have F15 : Df K mg "_law_leaf" s_law_leaf ["_law_x", "_law_names_here"] _ _ := ⟨fun_mk (st := s_law_leaf) l15 c15 k15, PySem.W.mg_of X G a15, (fun_mk (st := s_law_leaf) l15 c15 k15).binds (ps := ["_law_x", "_law_names_here"]) fun _ _ _ _ _ _ us hl => match us, hl with | [_, _], _ => rfl⟩
  have F16 : Df K mg "_law_tree" s_law_tree ["_law_x", "_law_names_here", "_law_deep"] _ _ := ⟨fun_mk (st := s_law_tree) l16 c16 k16, PySem.W.mg_of X G a16, (fun_mk (st := s_law_tree) l16 c16 k16).binds (ps := ["_law_x", "_law_names_here", "_law_deep"]) fun _ _ _ _ _ _ us hl => match us, hl with | [_, _, _], _ => rfl⟩
  have F17 : Df K mg "_law_expression" s_law_expression ["_law_xs", "_law_names_here"] _ _ := ⟨fun_mk (st := s_law_expression) l17 c17 k17, PySem.W.mg_of X G a17, (fun_mk (st := s_law_expression) l17 c17 k17).binds (ps := ["_law_xs", "_law_names_here"]) fun _ _ _ _ _ _ us hl => match us, hl with | [_, _], _ => rfl⟩
  have F18 : Df K mg "_law_condition" s_law_condition ["_law_xs", "_law_names_here"] _ _ := ⟨fun_mk (st := s_law_condition) l18 c18 k18, PySem.W.mg_of X G a18, (fun_mk (st := s_law_condition) l18 c18 k18).binds (ps := ["_law_xs", "_law_names_here"]) fun _ _ _ _ _ _ us hl => match us, hl with | [_, _], _ => rfl⟩
  have F19 : Df K mg "_law_worth" s_law_worth ["_law_part", "_law_held_here"] _ _ := ⟨fun_mk (st := s_law_worth) l19 c19 k19, PySem.W.mg_of X G a19, (fun_mk (st := s_law_worth) l19 c19 k19).binds (ps := ["_law_part", "_law_held_here"]) fun _ _ _ _ _ _ us hl => match us, hl with | [_, _], _ => rfl⟩
  have F20 : Df K mg "_law_holds" s_law_holds ["_law_told_here", "_law_held_here"] _ _ := ⟨fun_mk (st := s_law_holds) l20 c20 k20, PySem.W.mg_of X G a20, (fun_mk (st := s_law_holds) l20 c20 k20).binds (ps := ["_law_told_here", "_law_held_here"]) fun _ _ _ _ _ _ us hl => match us, hl with | [_, _], _ => rfl⟩
  have F21 : Df K mg "_law_whole" s_law_whole ["_law_found"] _ _ := ⟨fun_mk (st := s_law_whole) l21 c21 k21, PySem.W.mg_of X G a21, (fun_mk (st := s_law_whole) l21 c21 k21).binds (ps := ["_law_found"]) fun _ _ _ _ _ _ us hl => match us, hl with | [_], _ => rfl⟩
  have F22 : Df K mg "_law_is_stretch" s_law_is_stretch ["_law_found"] _ _ := ⟨fun_mk (st := s_law_is_stretch) l22 c22 k22, PySem.W.mg_of X G a22, (fun_mk (st := s_law_is_stretch) l22 c22 k22).binds (ps := ["_law_found"]) fun _ _ _ _ _ _ us hl => match us, hl with | [_], _ => rfl⟩
  have F23 : Df K mg "_law_stretch" s_law_stretch ["_law_x", "_law_y"] _ _ := ⟨fun_mk (st := s_law_stretch) l23 c23 k23, PySem.W.mg_of X G a23, (fun_mk (st := s_law_stretch) l23 c23 k23).binds (ps := ["_law_x", "_law_y"]) fun _ _ _ _ _ _ us hl => match us, hl with | [_, _], _ => rfl⟩
  have F24 : Df K mg "_law_known" s_law_known ["_law_xs", "_law_names_here"] _ _ := ⟨fun_mk (st := s_law_known) l24 c24 k24, PySem.W.mg_of X G a24, (fun_mk (st := s_law_known) l24 c24 k24).binds (ps := ["_law_xs", "_law_names_here"]) fun _ _ _ _ _ _ us hl => match us, hl with | [_, _], _ => rfl⟩
  have F25 : Df K mg "_law_one_of" s_law_one_of ["_law_stretch_here", "_law_x"] _ _ := ⟨fun_mk (st := s_law_one_of) l25 c25 k25, PySem.W.mg_of X G a25, (fun_mk (st := s_law_one_of) l25 c25 k25).binds (ps := ["_law_stretch_here", "_law_x"]) fun _ _ _ _ _ _ us hl => match us, hl with | [_, _], _ => rfl⟩
  have F26 : Df K mg "_law_held" s_law_held ["_law_known_here", "_law_x"] _ _ := ⟨fun_mk (st := s_law_held) l26 c26 k26, PySem.W.mg_of X G a26, (fun_mk (st := s_law_held) l26 c26 k26).binds (ps := ["_law_known_here", "_law_x"]) fun _ _ _ _ _ _ us hl => match us, hl with | [_, _], _ => rfl⟩
  have F27 : Df K mg "_law_cut" s_law_cut ["_law_low", "_law_high"] _ _ := ⟨fun_mk (st := s_law_cut) l27 c27 k27, PySem.W.mg_of X G a27, (fun_mk (st := s_law_cut) l27 c27 k27).binds (ps := ["_law_low", "_law_high"]) fun _ _ _ _ _ _ us hl => match us, hl with | [_, _], _ => rfl⟩
  have F28 : Df K mg "_law_reach" s_law_reach ["_law_part", "_law_known_here"] _ _ := ⟨fun_mk (st := s_law_reach) l28 c28 k28, PySem.W.mg_of X G a28, (fun_mk (st := s_law_reach) l28 c28 k28).binds (ps := ["_law_part", "_law_known_here"]) fun _ _ _ _ _ _ us hl => match us, hl with | [_, _], _ => rfl⟩
  have F29 : Df K mg "_law_met" s_law_met ["_law_one", "_law_low", "_law_high"] _ _ := ⟨fun_mk (st := s_law_met) l29 c29 k29, PySem.W.mg_of X G a29, (fun_mk (st := s_law_met) l29 c29 k29).binds (ps := ["_law_one", "_law_low", "_law_high"]) fun _ _ _ _ _ _ us hl => match us, hl with | [_, _, _], _ => rfl⟩
  have F30 : Df K mg "_law_side" s_law_side ["_law_sign", "_law_own", "_law_other", "_law_first"] _ _ := ⟨fun_mk (st := s_law_side) l30 c30 k30, PySem.W.mg_of X G a30, (fun_mk (st := s_law_side) l30 c30 k30).binds (ps := ["_law_sign", "_law_own", "_law_other", "_law_first"]) fun _ _ _ _ _ _ us hl => match us, hl with | [_, _, _, _], _ => rfl⟩
  have F31 : Df K mg "_law_kept" s_law_kept ["_law_told_here", "_law_known_here"] _ _ := ⟨fun_mk (st := s_law_kept) l31 c31 k31, PySem.W.mg_of X G a31, (fun_mk (st := s_law_kept) l31 c31 k31).binds (ps := ["_law_told_here", "_law_known_here"]) fun _ _ _ _ _ _ us hl => match us, hl with | [_, _], _ => rfl⟩
  have F32 : Df K mg "_law_contrary" s_law_contrary ["_law_told_here"] _ _ := ⟨fun_mk (st := s_law_contrary) l32 c32 k32, PySem.W.mg_of X G a32, (fun_mk (st := s_law_contrary) l32 c32 k32).binds (ps := ["_law_told_here"]) fun _ _ _ _ _ _ us hl => match us, hl with | [_], _ => rfl⟩
  have F33 : Df K mg "_law_same_dict" s_law_same_dict ["_law_found", "_law_due"] _ _ := ⟨fun_mk (st := s_law_same_dict) l33 c33 k33, PySem.W.mg_of X G a33, (fun_mk (st := s_law_same_dict) l33 c33 k33).binds (ps := ["_law_found", "_law_due"]) fun _ _ _ _ _ _ us hl => match us, hl with | [_, _], _ => rfl⟩
  have F34 : Df K mg "_law_told" s_law_told ["_law_script", "_law_names_here", "_law_known_here"] _ _ := ⟨fun_mk (st := s_law_told) l34 c34 k34, PySem.W.mg_of X G a34, (fun_mk (st := s_law_told) l34 c34 k34).binds (ps := ["_law_script", "_law_names_here", "_law_known_here"]) fun _ _ _ _ _ _ us hl => match us, hl with | [_, _, _], _ => rfl⟩
  have F35 : Df K mg "_law_good" s_law_good ["_law_told_here", "_law_known_here", "_law_held_here"] _ _ := ⟨fun_mk (st := s_law_good) l35 c35 k35, PySem.W.mg_of X G a35, (fun_mk (st := s_law_good) l35 c35 k35).binds (ps := ["_law_told_here", "_law_known_here", "_law_held_here"]) fun _ _ _ _ _ _ us hl => match us, hl with | [_, _, _], _ => rfl⟩
  have F36 : Df K mg "law" s_law ["_law_script"] _ _ := ⟨fun_mk (st := s_law) l36 c36 k36, PySem.W.mg_of X G a36, (fun_mk (st := s_law) l36 c36 k36).binds (ps := ["_law_script"]) fun _ _ _ _ _ _ us hl => match us, hl with | [_], _ => rfl⟩
  refine ⟨(PySem.W.fnOf "law" "law" (defArgs s_law) (defBody s_law) (defScope s_law) .none kV36 dc36 pm36 an36 cd36 ct36), fun s v => .of_eq rfl, fun base _ _ => ?_⟩
  have D_law_stream := ok_law_stream F12 B (P := l.prog) (w := w) (base := base)
  have D_law_cell_at := ok_law_cell_at F11 B (P := l.prog) (w := w) (base := base)
  have D_law_names := ok_law_names F14 B (P := l.prog) (w := w) (base := base)
  have D_law_number := ok_law_number F13 B (P := l.prog) (w := w) (base := base)
  have D_law_stretch := ok_law_stretch F23 B D_law_number (P := l.prog) (w := w) (base := base)
  have D_law_known := ok_law_known F24 B D_law_stream D_law_stretch (P := l.prog) (w := w) (base := base)
  have D_law_one_of := ok_law_one_of F25 (P := l.prog) (w := w) (base := base)
  have D_law_held := ok_law_held F26 D_law_one_of (P := l.prog) (w := w) (base := base)
  have D_law_leaf := ok_law_leaf F15 B D_law_number (P := l.prog) (w := w) (base := base)
  have D_law_tree := all_law_tree F16 D_law_leaf D_law_stream 6 (P := l.prog) (w := w) (base := base)
  have D_law_expression := ok_law_expression F17 D_law_tree (P := l.prog) (w := w) (base := base)
  have D_law_condition := ok_law_condition F18 B D_law_expression D_law_leaf (P := l.prog) (w := w) (base := base)
  have D_law_told := ok_law_told F34 B D_law_stream D_law_cell_at D_law_condition (P := l.prog) (w := w) (base := base)
  have D_contrary := ok_contrary F7 (P := l.prog) (w := w) (base := base)
  have D_law_contrary := ok_law_contrary F32 (P := l.prog) (w := w) (base := base)
  have D_rest := ok_rest F4 (P := l.prog) (w := w) (base := base)
  have D_cut := ok_cut F0 B ⟨_, PySem.W.mg_of X G y0⟩ (P := l.prog) (w := w) (base := base)
  have D_plus := ok_plus F1 D_cut (P := l.prog) (w := w) (base := base)
  have D_minus := ok_minus F2 D_cut (P := l.prog) (w := w) (base := base)
  have D_times := ok_times F3 B D_cut (P := l.prog) (w := w) (base := base)
  have D_reach := all_reach F6 B D_rest D_plus D_minus D_times 6 (P := l.prog) (w := w) (base := base)
  have D_met := ok_met F5 B (P := l.prog) (w := w) (base := base)
  have D_beside := ok_beside F8 (P := l.prog) (w := w) (base := base)
  have D_sides := ok_sides F9 D_met D_beside ⟨_, PySem.W.mg_of X G y0⟩ (P := l.prog) (w := w) (base := base)
  have D_kept := ok_kept F10 B D_reach D_sides D_met (P := l.prog) (w := w) (base := base)
  have D_law_cut := ok_law_cut F27 B (P := l.prog) (w := w) (base := base)
  have D_law_reach := all_law_reach F28 B D_law_cut 6 (P := l.prog) (w := w) (base := base)
  have D_law_met := ok_law_met F29 B (P := l.prog) (w := w) (base := base)
  have D_law_side := ok_law_side F30 B D_law_met (P := l.prog) (w := w) (base := base)
  have D_law_kept := ok_law_kept F31 B D_law_reach D_law_side D_law_met (P := l.prog) (w := w) (base := base)
  have D_law_whole := ok_law_whole F21 B (P := l.prog) (w := w) (base := base)
  have D_law_is_stretch := ok_law_is_stretch F22 B D_law_whole (P := l.prog) (w := w) (base := base)
  have D_law_same_dict := ok_law_same_dict F33 B D_law_is_stretch (P := l.prog) (w := w) (base := base)
  have D_law_worth := all_law_worth F19 B 6 (P := l.prog) (w := w) (base := base)
  have D_law_holds := ok_law_holds F20 D_law_worth (P := l.prog) (w := w) (base := base)
  have D_law_good := ok_law_good F35 D_kept D_law_kept D_law_same_dict D_law_holds (P := l.prog) (w := w) (base := base)
  exact ok_law F36 B D_law_stream D_law_cell_at D_law_names D_law_known D_law_held D_law_told D_contrary D_law_contrary D_law_good D_law_holds
end BW
open PySem PySem.W PyProof.Rows
set_option maxRecDepth 100000 in
set_option maxHeartbeats 0 in
theorem PySem.Challenge.cw_boundwatch_k09_what_conditions_keep_holds : PySem.Challenge.rw_boundwatch_k09_what_conditions_keep.Holds := by
  w_on; o_law; k_head; (case hw => w_witness2)
  k_fill
  refine L2.walk_of (l := PySem.Challenge.rw_boundwatch_k09_what_conditions_keep) (n := 63) (k := 12) (x := "_law_script") (CX := fun _ => L2.CX0) (sp := fun w => BW.SpR _ BW.R_law) rfl (by decide) rfl ⟨rfl, by decide, by decide⟩ (fun w h Y => PySem.W.kIn_of Y) ?F (fun _ H a ns hl _ hS => BW.sp_end ⟨ns, rfl, hl, rfl⟩ hS) (fun _ _ _ _ _ h => h)
  case F =>
    intro w mg fa h KX G hmg
    refine' BW.all_mk KX G hmg ?a0 ?l0 ?c0 ?k0 ?a1 ?l1 ?c1 ?k1 ?a2 ?l2 ?c2 ?k2 ?a3 ?l3 ?c3 ?k3 ?a4 ?l4 ?c4 ?k4 ?a5 ?l5 ?c5 ?k5 ?a6 ?l6 ?c6 ?k6 ?a7 ?l7 ?c7 ?k7 ?a8 ?l8 ?c8 ?k8 ?a9 ?l9 ?c9 ?k9 ?a10 ?l10 ?c10 ?k10 ?a11 ?l11 ?c11 ?k11 ?a12 ?l12 ?c12 ?k12 ?a13 ?l13 ?c13 ?k13 ?a14 ?l14 ?c14 ?k14 ?a15 ?l15 ?c15 ?k15 ?a16 ?l16 ?c16 ?k16 ?a17 ?l17 ?c17 ?k17 ?a18 ?l18 ?c18 ?k18 ?a19 ?l19 ?c19 ?k19 ?a20 ?l20 ?c20 ?k20 ?a21 ?l21 ?c21 ?k21 ?a22 ?l22 ?c22 ?k22 ?a23 ?l23 ?c23 ?k23 ?a24 ?l24 ?c24 ?k24 ?a25 ?l25 ?c25 ?k25 ?a26 ?l26 ?c26 ?k26 ?a27 ?l27 ?c27 ?k27 ?a28 ?l28 ?c28 ?k28 ?a29 ?l29 ?c29 ?k29 ?a30 ?l30 ?c30 ?k30 ?a31 ?l31 ?c31 ?k31 ?a32 ?l32 ?c32 ?k32 ?a33 ?l33 ?c33 ?k33 ?a34 ?l34 ?c34 ?k34 ?a35 ?l35 ?c35 ?k35 ?a36 ?l36 ?c36 ?k36 ?z0 ?z1 ?z2 ?z3 ?z4 ?z5 ?z6 ?z7 ?z8 ?z9 ?z10 ?z11 ?y0
    (case a0 => k_is); (case l0 => k_is); (case c0 => k_is); (case k0 => k_is); (case a1 => k_is); (case l1 => k_is); (case c1 => k_is); (case k1 => k_is); (case a2 => k_is); (case l2 => k_is); (case c2 => k_is); (case k2 => k_is); (case a3 => k_is); (case l3 => k_is); (case c3 => k_is); (case k3 => k_is); (case a4 => k_is); (case l4 => k_is); (case c4 => k_is); (case k4 => k_is); (case a5 => k_is); (case l5 => k_is); (case c5 => k_is); (case k5 => k_is); (case a6 => k_is); (case l6 => k_is); (case c6 => k_is); (case k6 => k_is); (case a7 => k_is); (case l7 => k_is); (case c7 => k_is); (case k7 => k_is); (case a8 => k_is); (case l8 => k_is); (case c8 => k_is); (case k8 => k_is); (case a9 => k_is); (case l9 => k_is); (case c9 => k_is); (case k9 => k_is); (case a10 => k_is); (case l10 => k_is); (case c10 => k_is); (case k10 => k_is); (case a11 => k_is); (case l11 => k_is); (case c11 => k_is); (case k11 => k_is); (case a12 => k_is); (case l12 => k_is); (case c12 => k_is); (case k12 => k_is); (case a13 => k_is); (case l13 => k_is); (case c13 => k_is); (case k13 => k_is); (case a14 => k_is); (case l14 => k_is); (case c14 => k_is); (case k14 => k_is); (case a15 => k_is); (case l15 => k_is); (case c15 => k_is); (case k15 => k_is); (case a16 => k_is); (case l16 => k_is); (case c16 => k_is); (case k16 => k_is); (case a17 => k_is); (case l17 => k_is); (case c17 => k_is); (case k17 => k_is); (case a18 => k_is); (case l18 => k_is); (case c18 => k_is); (case k18 => k_is); (case a19 => k_is); (case l19 => k_is); (case c19 => k_is); (case k19 => k_is); (case a20 => k_is); (case l20 => k_is); (case c20 => k_is); (case k20 => k_is); (case a21 => k_is); (case l21 => k_is); (case c21 => k_is); (case k21 => k_is); (case a22 => k_is); (case l22 => k_is); (case c22 => k_is); (case k22 => k_is); (case a23 => k_is); (case l23 => k_is); (case c23 => k_is); (case k23 => k_is); (case a24 => k_is); (case l24 => k_is); (case c24 => k_is); (case k24 => k_is); (case a25 => k_is); (case l25 => k_is); (case c25 => k_is); (case k25 => k_is); (case a26 => k_is); (case l26 => k_is); (case c26 => k_is); (case k26 => k_is); (case a27 => k_is); (case l27 => k_is); (case c27 => k_is); (case k27 => k_is); (case a28 => k_is); (case l28 => k_is); (case c28 => k_is); (case k28 => k_is); (case a29 => k_is); (case l29 => k_is); (case c29 => k_is); (case k29 => k_is); (case a30 => k_is); (case l30 => k_is); (case c30 => k_is); (case k30 => k_is); (case a31 => k_is); (case l31 => k_is); (case c31 => k_is); (case k31 => k_is); (case a32 => k_is); (case l32 => k_is); (case c32 => k_is); (case k32 => k_is); (case a33 => k_is); (case l33 => k_is); (case c33 => k_is); (case k33 => k_is); (case a34 => k_is); (case l34 => k_is); (case c34 => k_is); (case k34 => k_is); (case a35 => k_is); (case l35 => k_is); (case c35 => k_is); (case k35 => k_is); (case a36 => k_is); (case l36 => k_is); (case c36 => k_is); (case k36 => k_is); (case z0 => k_is); (case z1 => k_is); (case z2 => k_is); (case z3 => k_is); (case z4 => k_is); (case z5 => k_is); (case z6 => k_is); (case z7 => k_is); (case z8 => k_is); (case z9 => k_is); (case z10 => k_is); (case z11 => k_is); (case y0 => k_is)
