import PyProof.Rows.All
import HandS.ForMost
import HandS.ForExc
import HandS.Dict
import HandS.Text
import HandS.Iter
import HandS.Comp
import HandS.Flow
import HandS.IsInst
import HandS.ExcOwn
import HandS.TryOnly
import HandS.NoneIn
import HandS.Small
import HandS.Ends
import HandS.ExcIs
import HandS.ExcField
import PySem.Challenge.RW_foldfloor_k00_orders_and_words
set_option Elab.async false
set_option linter.all false
section
set_option maxRecDepth 100000
set_option maxHeartbeats 2000000
namespace Fd
open PySem
abbrev D := PyData
abbrev Hp := L2.Hp
abbrev V := L2.V
abbrev Frag := PySem.W.Frag

/-! ### heaps that grow -/
def Ex (H H' : Hp) : Prop := ∀ a o, H a = some o → H' a = some o
theorem Ex.refl (H : Hp) : Ex H H := fun _ _ h => h
theorem Ex.trans {H H1 H2 : Hp} (a : Ex H H1) (b : Ex H1 H2) : Ex H H2 := fun x o h => b x o (a x o h)
theorem Ex.put {H : Hp} {p : Addr} {o : L2.HO} (h : H p = none) : Ex H (L2.upd H p o) := fun a u e => by
  rw [L2.upd_ne (L2.ne_of_none e h)]
  exact e
theorem Ex.back {H H' : Hp} {p : Addr} (e : Ex H H') (h : H' p = none) : H p = none := by
  cases q : H p with
  | none => rfl
  | some o =>
    rw [e p o q] at h
    cases h
theorem ex_rd {H H' : Hp} {a : Addr} {u : L2.HO} (e : Ex H H') (h : L2.Rd H a u) : L2.Rd H' a u := by
  rcases h with h | ⟨o, h⟩
  · exact .inl (e a _ h)
  · exact .inr ⟨o, e a _ h⟩
theorem ex_l {K : Frag} {H H' : Hp} {a : Addr} {xs : List V} (e : Ex H H') (h : L2.SqL K H a xs) : L2.SqL K H' a xs := by
  rcases h with h | h
  · exact .inl (ex_rd e h)
  · exact .inr h
theorem ex_t {K : Frag} {H H' : Hp} {a : Addr} {xs : List V} (e : Ex H H') (h : L2.SqT K H a xs) : L2.SqT K H' a xs := by
  rcases h with h | h
  · exact .inl (ex_rd e h)
  · exact .inr h

/-! ### which value stands for which datum -/
def kD : L2.Key → D
  | .inl i => .int i
  | .inr x => .str x
mutual
inductive Rp (K : Frag) (G : Hp) : V → D → Prop
  | non : Rp K G .non .none
  | bl (b : Bool) : Rp K G (.bl b) (.bool b)
  | int (i : Int) : Rp K G (.int i) (.int i)
  | str (x : Str) : Rp K G (.str x) (.str x)
  | lst {a : Addr} {xs : List V} {ds : List D} : G a = some (.lst xs) → RpA K G xs ds → Rp K G (.ref a) (.list ds)
  | tup {a : Addr} {xs : List V} {ds : List D} : L2.SqT K G a xs → RpA K G xs ds → Rp K G (.ref a) (.tuple ds)
  | dct {a : Addr} {kvs : List (L2.Key × V)} {ds : List (D × D)} : G a = some (.dK kvs) → RpK K G kvs ds → Rp K G (.ref a) (.dict ds)
inductive RpA (K : Frag) (G : Hp) : List V → List D → Prop
  | nil : RpA K G [] []
  | cons {v : V} {vs : List V} {d : D} {ds : List D} : Rp K G v d → RpA K G vs ds → RpA K G (v :: vs) (d :: ds)
inductive RpK (K : Frag) (G : Hp) : List (L2.Key × V) → List (D × D) → Prop
  | nil : RpK K G [] []
  | cons {k : L2.Key} {v : V} {r : List (L2.Key × V)} {d : D} {ds : List (D × D)} : Rp K G v d → RpK K G r ds → RpK K G ((k, v) :: r) ((kD k, d) :: ds)
end
mutual
theorem Rp.ex {K : Frag} {G G' : Hp} (e : Ex G G') : ∀ {v : V} {d : D}, Rp K G v d → Rp K G' v d
  | _, _, .non => .non
  | _, _, .bl b => .bl b
  | _, _, .int i => .int i
  | _, _, .str x => .str x
  | _, _, .lst h r => .lst (e _ _ h) (RpA.ex e r)
  | _, _, .tup h r => .tup (ex_t e h) (RpA.ex e r)
  | _, _, .dct h r => .dct (e _ _ h) (RpK.ex e r)
theorem RpA.ex {K : Frag} {G G' : Hp} (e : Ex G G') : ∀ {vs : List V} {ds : List D}, RpA K G vs ds → RpA K G' vs ds
  | _, _, .nil => .nil
  | _, _, .cons h r => .cons (Rp.ex e h) (RpA.ex e r)
theorem RpK.ex {K : Frag} {G G' : Hp} (e : Ex G G') : ∀ {vs : List (L2.Key × V)} {ds : List (D × D)}, RpK K G vs ds → RpK K G' vs ds
  | _, _, .nil => .nil
  | _, _, .cons h r => .cons (Rp.ex e h) (RpK.ex e r)
end
section
variable {K : Frag} {G H : Hp} {v : V} {d : D} {vs : List V} {ds : List D}
theorem RpA.length : ∀ {vs : List V} {ds : List D}, RpA K G vs ds → vs.length = ds.length
  | _, _, .nil => rfl
  | _, _, .cons _ r => by simp [RpA.length r]
theorem RpA.get : ∀ {vs : List V} {ds : List D} {i : Nat} {d : D}, RpA K G vs ds → ds[i]? = some d → ∃ v, vs[i]? = some v ∧ Rp K G v d
  | _, _, _, _, .nil, e => by simp at e
  | _, _, 0, _, .cons h _, e => by simp at e; subst e; exact ⟨_, rfl, h⟩
  | _, _, i + 1, _, .cons _ r, e => by
    obtain ⟨v, h1, h2⟩ := RpA.get (i := i) r (by simpa using e)
    exact ⟨v, by simpa using h1, h2⟩
theorem RpA.getV : ∀ {vs : List V} {ds : List D} {i : Nat} {v : V}, RpA K G vs ds → vs[i]? = some v → ∃ d, ds[i]? = some d ∧ Rp K G v d
  | _, _, _, _, .nil, e => by simp at e
  | _, _, 0, _, .cons h _, e => by simp at e; subst e; exact ⟨_, rfl, h⟩
  | _, _, i + 1, _, .cons _ r, e => by
    obtain ⟨v, h1, h2⟩ := RpA.getV (i := i) r (by simpa using e)
    exact ⟨v, by simpa using h1, h2⟩
theorem RpA.append : ∀ {vs ws : List V} {ds es : List D}, RpA K G vs ds → RpA K G ws es → RpA K G (vs ++ ws) (ds ++ es)
  | _, _, _, _, .nil, s => s
  | _, _, _, _, .cons h r, s => .cons h (RpA.append r s)
theorem RpA.take : ∀ {vs : List V} {ds : List D} (n : Nat), RpA K G vs ds → RpA K G (vs.take n) (ds.take n)
  | _, _, 0, _ => by simpa using RpA.nil
  | _, _, _ + 1, .nil => .nil
  | _, _, n + 1, .cons h r => .cons h (RpA.take n r)
theorem RpA.drop : ∀ {vs : List V} {ds : List D} (n : Nat), RpA K G vs ds → RpA K G (vs.drop n) (ds.drop n)
  | _, _, 0, r => r
  | _, _, _ + 1, .nil => .nil
  | _, _, n + 1, .cons _ r => RpA.drop n r
theorem RpA.set : ∀ {vs : List V} {ds : List D} (n : Nat) {v : V} {d : D}, RpA K G vs ds → Rp K G v d → RpA K G (vs.set n v) (ds.set n d)
  | _, _, _, _, _, .nil, _ => .nil
  | _, _, 0, _, _, .cons _ r, q => .cons q r
  | _, _, n + 1, _, _, .cons h r, q => .cons h (RpA.set n r q)
theorem RpA.revAux : ∀ {vs ws : List V} {ds es : List D}, RpA K G vs ds → RpA K G ws es → RpA K G (vs.reverseAux ws) (ds.reverseAux es)
  | _, _, _, _, .nil, q => q
  | _, _, _, _, .cons h1 h2, q => by
    have := RpA.revAux h2 (RpA.cons h1 q)
    exact this
theorem RpA.reverse {vs : List V} {ds : List D} (h : RpA K G vs ds) : RpA K G vs.reverse ds.reverse := h.revAux .nil
theorem RpA.dropLast {vs : List V} {ds : List D} (h : RpA K G vs ds) : RpA K G vs.dropLast ds.dropLast := by
  rw [List.dropLast_eq_take, List.dropLast_eq_take, h.length]
  exact h.take _
theorem RpA.ints : ∀ {ns : List Int}, RpA K G (ns.map L2.V.int) (ns.map PyData.int)
  | [] => .nil
  | n :: ns => .cons (.int n) RpA.ints
theorem RpA.strs : ∀ {xs : List Str}, RpA K G (xs.map L2.V.str) (xs.map PyData.str)
  | [] => .nil
  | x :: xs => .cons (.str x) RpA.strs
end
/-- data of flat kinds, by their values -/
theorem Rp.int_inv {K : Frag} {G : Hp} {v : V} {i : Int} (h : Rp K G v (.int i)) : v = .int i := by cases h; rfl
theorem Rp.str_inv {K : Frag} {G : Hp} {v : V} {x : Str} (h : Rp K G v (.str x)) : v = .str x := by cases h; rfl
theorem Rp.bl_inv {K : Frag} {G : Hp} {v : V} {b : Bool} (h : Rp K G v (.bool b)) : v = .bl b := by cases h; rfl
theorem Rp.non_inv {K : Frag} {G : Hp} {v : V} (h : Rp K G v .none) : v = .non := by cases h; rfl
theorem RpA.ints_inv {K : Frag} {G : Hp} : ∀ {vs : List V} {ns : List Int}, RpA K G vs (ns.map PyData.int) → vs = ns.map L2.V.int
  | _, [], .nil => rfl
  | _, n :: ns, .cons h r => by rw [h.int_inv, RpA.ints_inv r]; rfl
theorem RpA.strs_inv {K : Frag} {G : Hp} : ∀ {vs : List V} {ns : List Str}, RpA K G vs (ns.map PyData.str) → vs = ns.map L2.V.str
  | _, [], .nil => rfl
  | _, n :: ns, .cons h r => by rw [h.str_inv, RpA.strs_inv r]; rfl
theorem RpA.bls_inv {K : Frag} {G : Hp} : ∀ {vs : List V} {ns : List Bool}, RpA K G vs (ns.map PyData.bool) → vs = ns.map L2.V.bl
  | _, [], .nil => rfl
  | _, n :: ns, .cons h r => by rw [h.bl_inv, RpA.bls_inv r]; rfl
mutual
theorem Rp.dp {K : Frag} {G : Hp} : ∀ {v : V} {d : D}, d.hasDict = false → Rp K G v d → L2.Dp K G v d
  | _, _, _, .non => .non
  | _, _, _, .bl b => .bl b
  | _, _, _, .int i => .int i
  | _, _, _, .str x => .str x
  | _, _, n, .lst h r => .lst (L2.SqL.of h) (RpA.dp (by simpa [PyData.hasDict] using n) r)
  | _, _, n, .tup h r => .tup h (RpA.dp (by simpa [PyData.hasDict] using n) r)
  | _, _, n, .dct h r => by simp [PyData.hasDict] at n
theorem RpA.dp {K : Frag} {G : Hp} : ∀ {vs : List V} {ds : List D}, PyData.hasDictAll ds = false → RpA K G vs ds → L2.DpAll K G vs ds
  | _, _, _, .nil => .nil
  | _, _, n, .cons h r => by
    simp only [PyData.hasDictAll, Bool.or_eq_false_iff] at n
    exact .cons (Rp.dp n.1 h) (RpA.dp n.2 r)
end

/-! ### slots, environments -/
inductive Slot where
  | no
  /-- a datum that stays -/
  | ro (d : D)
  /-- a list or dict that is this name's alone (b: an argument that is handed back changed) -/
  | own (b : Bool) (d : D)
  /-- the script, or what is handed on of it -/
  | scr (ns : List Int)
  /-- the exception that a suite holds -/
  | pin
abbrev Ev := List Slot
inductive Kd where
  | ro | fr | al (i : Nat) | sc
abbrev Dl := List (Nat × Slot)
def apd (Γ : Ev) : Dl → Ev
  | [] => Γ
  | (i, s) :: r => apd (Γ.set i s) r
theorem apd_append (Γ : Ev) : ∀ (a b : Dl), apd Γ (a ++ b) = apd (apd Γ a) b
  | [], _ => rfl
  | (i, s) :: r, b => by show apd (Γ.set i s) (r ++ b) = _; rw [apd_append (Γ.set i s) r b]; rfl
def hit (δ : Dl) (i : Nat) : Bool := δ.any fun p => p.1 == i
theorem apd_miss {i : Nat} : ∀ {δ : Dl} {Γ : Ev}, hit δ i = false → (apd Γ δ)[i]? = Γ[i]?
  | [], _, _ => rfl
  | (j, s) :: r, Γ, h => by
    unfold hit at h
    rw [List.any_cons, Bool.or_eq_false_iff] at h
    show (apd (Γ.set j s) r)[i]? = _
    rw [apd_miss (δ := r) h.2, List.getElem?_set_ne]
    intro e
    subst e
    simp at h
/-- what a list or dict of one's own holds -/
def OwnR (K : Frag) (G H : Hp) (p : Addr) : D → Prop
  | .list ds => ∃ vs, H p = some (.lst vs) ∧ RpA K G vs ds
  | .dict ds => ∃ kvs, H p = some (.dK kvs) ∧ RpK K G kvs ds
  | _ => False
theorem OwnR.here {K : Frag} {G H : Hp} {p : Addr} {d : D} (h : OwnR K G H p d) : ∃ o, H p = some o := by
  cases d with
  | list ds => obtain ⟨vs, h, _⟩ := h; exact ⟨_, h⟩
  | dict ds => obtain ⟨vs, h, _⟩ := h; exact ⟨_, h⟩
  | _ => exact h.elim
theorem OwnR.move {K : Frag} {G G' H H' : Hp} {p : Addr} {d : D} (h : OwnR K G H p d) (e : Ex G G') (k : H' p = H p) : OwnR K G' H' p d := by
  cases d with
  | list ds => obtain ⟨vs, h, r⟩ := h; exact ⟨vs, k.trans h, r.ex e⟩
  | dict ds => obtain ⟨vs, h, r⟩ := h; exact ⟨vs, k.trans h, r.ex e⟩
  | _ => exact h.elim
/-- frozen -/
theorem OwnR.rp {K : Frag} {G H G' : Hp} {p : Addr} {d : D} (h : OwnR K G H p d) (e : Ex G G') (k : ∀ o, H p = some o → G' p = some o) : Rp K G' (.ref p) d := by
  cases d with
  | list ds => obtain ⟨vs, h, r⟩ := h; exact .lst (k _ h) (r.ex e)
  | dict ds => obtain ⟨vs, h, r⟩ := h; exact .dct (k _ h) (r.ex e)
  | _ => exact h.elim
structure Bs where
  G0 : Hp
  H0 : Hp
  par : List (Nat × Addr)
  pin : List (Nat × Addr) := []
  kp : List (Addr × List (Str × V)) := []
def OwnA (Γ : Ev) (σ : L2.St) (p : Addr) : Prop := ∃ (i : Nat) (b : Bool) (d : D), Γ[i]? = some (Slot.own b d) ∧ σ[i]? = some (some (L2.V.ref p))
structure Ok (B : Bs) (K : Frag) (G H : Hp) (σ : L2.St) (Γ : Ev) : Prop where
  sub : Ex G H
  ro : ∀ (i : Nat) (d : D), Γ[i]? = some (Slot.ro d) → ∃ v, σ[i]? = some (some v) ∧ Rp K G v d
  own : ∀ (i : Nat) (b : Bool) (d : D), Γ[i]? = some (Slot.own b d) → ∃ p, σ[i]? = some (some (L2.V.ref p)) ∧ G p = none ∧ OwnR K G H p d ∧ (b = true → (i, p) ∈ B.par) ∧ (b = false → B.H0 p = none)
  inj : ∀ (i j : Nat) (b c : Bool) (d e : D) (p : Addr), Γ[i]? = some (Slot.own b d) → Γ[j]? = some (Slot.own c e) → σ[i]? = some (some (L2.V.ref p)) → σ[j]? = some (some (L2.V.ref p)) → i = j
  exG : Ex B.G0 G
  keep : ∀ a o, B.H0 a = some o → (∀ j, (j, a) ∉ B.par) → H a = some o
  thin : ∀ a o, B.H0 a = some o → B.G0 a = none → G a = none
  scr : ∀ (i : Nat) (ns : List Int), Γ[i]? = some (Slot.scr ns) → ∃ a, σ[i]? = some (some (L2.V.ref a)) ∧ L2.SqL K G a (ns.map L2.V.int)
  par : ∀ (j : Nat) (p : Addr), (j, p) ∈ B.par → σ[j]? = some (some (L2.V.ref p)) ∧ ∃ d, Γ[j]? = some (Slot.own true d)
  len : σ.length = Γ.length
  pin : ∀ (i : Nat) (a : Addr), (i, a) ∈ B.pin → σ[i]? = some (some (L2.V.ref a)) ∧ Γ[i]? = some .pin
  kp : ∀ (a : Addr) (fs : List (Str × V)), (a, fs) ∈ B.kp → H a = some (.xd fs)
/-- a step of an expression: the slots' values stay -/
structure Stp (σ : L2.St) (Γ : Ev) (G H : Hp) (Γ' : Ev) (G' H' : Hp) : Prop where
  exG : Ex G G'
  keep : ∀ a o, H a = some o → ¬ OwnA Γ σ a → H' a = some o
  thin : ∀ a o, H a = some o → G a = none → ¬ OwnA Γ σ a → G' a = none
  dom : ∀ a o, H a = some o → ∃ o', H' a = some o'
  less : ∀ p, OwnA Γ' σ p → OwnA Γ σ p
theorem Stp.refl {σ : L2.St} {Γ : Ev} {G H : Hp} : Stp σ Γ G H Γ G H := ⟨Ex.refl _, fun _ _ h _ => h, fun _ _ _ h _ => h, fun _ o h => ⟨o, h⟩, fun _ h => h⟩
theorem Stp.trans {σ : L2.St} {Γ Γ1 Γ2 : Ev} {G G1 G2 H H1 H2 : Hp} (a : Stp σ Γ G H Γ1 G1 H1) (b : Stp σ Γ1 G1 H1 Γ2 G2 H2) : Stp σ Γ G H Γ2 G2 H2 where
  exG := a.exG.trans b.exG
  keep := fun x o h n => b.keep x o (a.keep x o h n) fun q => n (a.less x q)
  thin := fun x o h g n => b.thin x o (a.keep x o h n) (a.thin x o h g n) fun q => n (a.less x q)
  dom := fun x o h => let ⟨o', h'⟩ := a.dom x o h; b.dom x o' h'
  less := fun p h => a.less p (b.less p h)
def Vl (B : Bs) (K : Frag) (σ : L2.St) (Γ : Ev) (G H : Hp) : Kd → D → V → Prop
  | .ro, d, v => Rp K G v d
  | .fr, d, v => ∃ p, v = .ref p ∧ G p = none ∧ OwnR K G H p d ∧ ¬ OwnA Γ σ p ∧ B.H0 p = none
  | .al i, d, v => (∃ b, Γ[i]? = some (.own b d)) ∧ σ[i]? = some (some v)
  | .sc, d, v => ∃ (a : Addr) (ns : List Int), v = .ref a ∧ d = .list (ns.map PyData.int) ∧ L2.SqL K G a (ns.map L2.V.int)
section
variable {B : Bs} {K : Frag} {G G' H H' : Hp} {σ : L2.St} {Γ Γ' : Ev} {k : Kd} {d : D} {v : V}
/-- a value at hand, by the heap as it is -/
theorem Vl.rp (o : Ok B K G H σ Γ) (h : Vl B K σ Γ G H k d v) (hk : k ≠ .sc) : Rp K H v d := by
  cases k with
  | sc => exact absurd rfl hk
  | ro => exact Rp.ex o.sub h
  | fr => obtain ⟨p, rfl, _, h, _⟩ := h; exact h.rp o.sub fun _ q => q
  | al i =>
    obtain ⟨⟨b, h⟩, h2⟩ := h
    obtain ⟨p, e, _, r, _⟩ := o.own i b d h
    rw [e] at h2
    cases h2
    exact r.rp o.sub fun _ q => q
/-- what is left alone stays -/
def keeps (δ : Dl) : Kd → Bool
  | .al i => !hit δ i
  | _ => true
theorem Vl.step {δ : Dl} (o : Ok B K G' H' σ (apd Γ δ)) (s : Stp σ Γ G H (apd Γ δ) G' H') (hk : keeps δ k = true) (h : Vl B K σ Γ G H k d v) : Vl B K σ (apd Γ δ) G' H' k d v := by
  cases k with
  | ro => exact Rp.ex s.exG h
  | fr =>
    obtain ⟨p, rfl, g, r, n, q⟩ := h
    obtain ⟨ob, hp⟩ := r.here
    exact ⟨p, rfl, s.thin p ob hp g n, r.move s.exG ((s.keep p ob hp n).trans hp.symm), fun z => n (s.less p z), q⟩
  | sc => obtain ⟨a, ns, h1, h2, h3⟩ := h; exact ⟨a, ns, h1, h2, ex_l s.exG h3⟩
  | al i =>
    obtain ⟨⟨b, h⟩, h2⟩ := h
    have hk' : hit δ i = false := by simpa [keeps] using hk
    exact ⟨⟨b, (apd_miss hk').trans h⟩, h2⟩
/-- the items of a list at hand: as frozen data -/
theorem Vl.items (o : Ok B K G H σ Γ) {ds : List D} (h : Vl B K σ Γ G H k (.list ds) v) : ∃ a vs, v = .ref a ∧ L2.SqL K H a vs ∧ RpA K G vs ds := by
  cases k with
  | ro =>
    cases h with
    | lst h r => exact ⟨_, _, rfl, L2.SqL.of (o.sub _ _ h), r⟩
  | sc =>
    obtain ⟨a, ns, h1, h2, h3⟩ := h
    cases h2
    exact ⟨a, _, h1, ex_l o.sub h3, RpA.ints⟩
  | fr =>
    obtain ⟨p, rfl, _, ⟨vs, h, r⟩, _⟩ := h
    exact ⟨p, vs, rfl, L2.SqL.of h, r⟩
  | al i =>
    obtain ⟨⟨b, h⟩, h2⟩ := h
    obtain ⟨p, e, _, ⟨vs, r1, r2⟩, _⟩ := o.own i b _ h
    rw [e] at h2
    cases h2
    exact ⟨p, vs, rfl, L2.SqL.of r1, r2⟩
/-- a list at hand that is tracked as it is -/
theorem Vl.itemsM (o : Ok B K G H σ Γ) {ds : List D} (h : Vl B K σ Γ G H k (.list ds) v) (hk : k ≠ .sc) : ∃ a vs, v = .ref a ∧ H a = some (.lst vs) ∧ RpA K G vs ds := by
  cases k with
  | sc => exact absurd rfl hk
  | ro =>
    cases h with
    | lst h r => exact ⟨_, _, rfl, o.sub _ _ h, r⟩
  | fr =>
    obtain ⟨p, rfl, _, ⟨vs, h, r⟩, _⟩ := h
    exact ⟨p, vs, rfl, h, r⟩
  | al i =>
    obtain ⟨⟨b, h⟩, h2⟩ := h
    obtain ⟨p, e, _, ⟨vs, r1, r2⟩, _⟩ := o.own i b _ h
    rw [e] at h2
    cases h2
    exact ⟨p, vs, rfl, r1, r2⟩
theorem Vl.itemsT (o : Ok B K G H σ Γ) {ds : List D} (h : Vl B K σ Γ G H k (.tuple ds) v) : ∃ a vs, v = .ref a ∧ L2.SqT K H a vs ∧ RpA K G vs ds := by
  cases k with
  | ro =>
    cases h with
    | tup h r => exact ⟨_, _, rfl, ex_t o.sub h, r⟩
  | fr => obtain ⟨p, _, _, h, _⟩ := h; exact h.elim
  | sc => obtain ⟨_, _, _, h, _⟩ := h; cases h
  | al i =>
    obtain ⟨⟨b, h⟩, h2⟩ := h
    obtain ⟨p, e, _, h, _⟩ := o.own i b _ h
    exact h.elim
theorem Vl.flat (o : Ok B K G H σ Γ) (h : Vl B K σ Γ G H k d v) (hd : (match d with | .list _ => false | .dict _ => false | _ => true) = true) : Rp K G v d := by
  cases k with
  | ro => exact h
  | fr => obtain ⟨p, _, _, h, _⟩ := h; cases d <;> first | exact h.elim | cases hd
  | sc => obtain ⟨_, _, _, h, _⟩ := h; subst h; cases hd
  | al i =>
    obtain ⟨⟨b, h⟩, h2⟩ := h
    obtain ⟨p, e, _, h, _⟩ := o.own i b _ h
    cases d <;> first | exact h.elim | cases hd

/-! ### the heap turns -/
/-- something new is laid: not told to anybody -/
theorem Ok.new (o : Ok B K G H σ Γ) {p : Addr} {ob : L2.HO} (hp : H p = none) : Ok B K G (L2.upd H p ob) σ Γ := by
  have e := Ex.put (o := ob) hp
  have ng : G p = none := o.sub.back hp
  refine ⟨o.sub.trans e, o.ro, fun i b d h => ?_, o.inj, o.exG, fun a u h n => e a u (o.keep a u h n), o.thin, o.scr, o.par, o.len, o.pin, fun a fs h => e a _ (o.kp a fs h)⟩
  obtain ⟨q, h1, h2, h3, h4⟩ := o.own i b d h
  obtain ⟨u, hu⟩ := h3.here
  exact ⟨q, h1, h2, h3.move (Ex.refl G) (L2.upd_ne (L2.ne_of_none hu hp)), h4⟩
theorem Stp.new (o : Ok B K G H σ Γ) {p : Addr} {ob : L2.HO} (hp : H p = none) : Stp σ Γ G H Γ G (L2.upd H p ob) :=
  ⟨Ex.refl _, fun a u h _ => Ex.put hp a u h, fun _ _ _ h _ => h, fun a u h => ⟨u, Ex.put hp a u h⟩, fun _ h => h⟩
theorem Ok.h0 (o : Ok B K G H σ Γ) {p : Addr} (hp : H p = none) : B.H0 p = none := by
  cases q : B.H0 p with
  | none => rfl
  | some u =>
    by_cases hm : ∃ j, (j, p) ∈ B.par
    · obtain ⟨j, hj⟩ := hm
      obtain ⟨h1, d, h2⟩ := o.par j p hj
      obtain ⟨p', e, _, r, _⟩ := o.own j true d h2
      rw [h1] at e
      cases e
      obtain ⟨u, hu⟩ := r.here
      rw [hp] at hu
      cases hu
    · have := o.keep p u q fun j hj => hm ⟨j, hj⟩
      rw [hp] at this
      cases this
theorem Ok.notOwn (o : Ok B K G H σ Γ) {p : Addr} (hp : H p = none) : ¬ OwnA Γ σ p := by
  rintro ⟨i, b, d, h1, h2⟩
  obtain ⟨q, e, _, r, _⟩ := o.own i b d h1
  rw [h2] at e
  cases e
  obtain ⟨u, hu⟩ := r.here
  rw [hp] at hu
  cases hu
/-- a new list is at hand -/
theorem Vl.newL (o : Ok B K G H σ Γ) {p : Addr} {vs : List V} {ds : List D} (hp : H p = none) (r : RpA K G vs ds) : Vl B K σ Γ G (L2.upd H p (.lst vs)) .fr (.list ds) (.ref p) :=
  ⟨p, rfl, o.sub.back hp, ⟨vs, L2.upd_same, r⟩, o.notOwn hp, o.h0 hp⟩
theorem Vl.newD (o : Ok B K G H σ Γ) {p : Addr} {vs : List (L2.Key × V)} {ds : List (D × D)} (hp : H p = none) (r : RpK K G vs ds) : Vl B K σ Γ G (L2.upd H p (.dK vs)) .fr (.dict ds) (.ref p) :=
  ⟨p, rfl, o.sub.back hp, ⟨vs, L2.upd_same, r⟩, o.notOwn hp, o.h0 hp⟩
/-- a new tuple: frozen at once -/
theorem Ok.newF (o : Ok B K G H σ Γ) {p : Addr} {ob : L2.HO} (hp : H p = none) : Ok B K (L2.upd G p ob) (L2.upd H p ob) σ Γ := by
  have e := Ex.put (o := ob) hp
  have ng : G p = none := o.sub.back hp
  have eg := Ex.put (o := ob) ng
  refine ⟨fun a u h => ?_, fun i d h => ?_, fun i b d h => ?_, o.inj, o.exG.trans eg, fun a u h n => e a u (o.keep a u h n), fun a u h g => ?_, fun i ns h => let ⟨a, h1, h2⟩ := o.scr i ns h; ⟨a, h1, ex_l eg h2⟩, o.par, o.len, o.pin, fun a fs h => e a _ (o.kp a fs h)⟩
  · by_cases ha : a = p
    · subst ha
      rw [L2.upd_same] at h ⊢
      exact h
    · rw [L2.upd_ne ha] at h ⊢
      exact o.sub a u h
  · obtain ⟨v, h1, h2⟩ := o.ro i d h
    exact ⟨v, h1, h2.ex eg⟩
  · obtain ⟨q, h1, h2, h3, h4⟩ := o.own i b d h
    obtain ⟨u, hu⟩ := h3.here
    have ne : q ≠ p := L2.ne_of_none hu hp
    exact ⟨q, h1, by rw [L2.upd_ne ne]; exact h2, h3.move eg (L2.upd_ne ne), h4⟩
  · have ne : a ≠ p := fun z => by rw [z, o.h0 hp] at h; cases h
    rw [L2.upd_ne ne]
    exact o.thin a u h g
theorem Stp.newF (o : Ok B K G H σ Γ) {p : Addr} {ob : L2.HO} (hp : H p = none) : Stp σ Γ G H Γ (L2.upd G p ob) (L2.upd H p ob) :=
  ⟨Ex.put (o.sub.back hp), fun a u h _ => Ex.put hp a u h, fun a u h g _ => by rw [L2.upd_ne (L2.ne_of_none h hp)]; exact g, fun a u h => ⟨u, Ex.put hp a u h⟩, fun _ h => h⟩
/-- freezing what is at hand; a list of a name's own turns into a datum -/
def fz (d : D) : Kd → Dl
  | .al i => [(i, .ro d)]
  | _ => []
/-- an argument that is handed back is never frozen -/
def fzOk (Γ : Ev) : Kd → Bool
  | .al i => match Γ[i]? with
    | some (.own b _) => !b
    | _ => false
  | .sc => false
  | _ => true
theorem Vl.freeze {Γ0 : Ev} {G0 H0 : Hp} (o : Ok B K G H σ Γ) (s : Stp σ Γ0 G0 H0 Γ G H) (hn : k = .fr → ∀ p, v = .ref p → H0 p = none) (hz : fzOk Γ k = true) (h : Vl B K σ Γ G H k d v) :
    ∃ G', Ok B K G' H σ (apd Γ (fz d k)) ∧ Stp σ Γ0 G0 H0 (apd Γ (fz d k)) G' H ∧ Rp K G' v d ∧ Ex G G' := by
  cases k with
  | ro => exact ⟨G, o, s, h, Ex.refl G⟩
  | sc => cases hz
  | fr =>
    obtain ⟨p, rfl, g, r, n, q⟩ := h
    obtain ⟨ob, hp⟩ := r.here
    have hn' := hn rfl p rfl
    have eg : Ex G (L2.upd G p ob) := Ex.put g
    refine ⟨L2.upd G p ob, ⟨fun a u h => ?_, fun i d h => ?_, fun i b d h => ?_, o.inj, o.exG.trans eg, o.keep, fun a u h g => ?_, fun i ns h => let ⟨a, h1, h2⟩ := o.scr i ns h; ⟨a, h1, ex_l eg h2⟩, o.par, o.len, o.pin, o.kp⟩, ⟨s.exG.trans eg, s.keep, fun a u h g' na => ?_, s.dom, s.less⟩, r.rp eg fun u hu => ?_, eg⟩
    · by_cases ha : a = p
      · subst ha
        rw [L2.upd_same] at h
        exact hp.trans h
      · rw [L2.upd_ne ha] at h
        exact o.sub a u h
    · obtain ⟨v, h1, h2⟩ := o.ro i d h
      exact ⟨v, h1, h2.ex eg⟩
    · obtain ⟨p', h1, h2, h3, h4⟩ := o.own i b d h
      have ne : p' ≠ p := fun z => n ⟨i, b, d, h, z ▸ h1⟩
      exact ⟨p', h1, by rw [L2.upd_ne ne]; exact h2, h3.move eg rfl, h4⟩
    · have ne : a ≠ p := fun z => by rw [z, q] at h; cases h
      rw [L2.upd_ne ne]
      exact o.thin a u h g
    · have ne : a ≠ p := fun z => by rw [z, hn'] at h; cases h
      rw [L2.upd_ne ne]
      exact s.thin a u h g' na
    · rw [hp] at hu
      rw [L2.upd_same]
      exact hu
  | al i =>
    obtain ⟨⟨b, hi⟩, h2⟩ := h
    obtain ⟨p, h1, g, r, hb1, hb0⟩ := o.own i b d hi
    have hb : b = false := by
      simpa [fzOk, hi] using hz
    subst hb
    have e : v = .ref p := by
      rw [h1] at h2
      exact (Option.some.inj (Option.some.inj h2)).symm
    subst e
    obtain ⟨ob, hp⟩ := r.here
    have eg : Ex G (L2.upd G p ob) := Ex.put g
    have hlt : i < Γ.length := (List.getElem?_eq_some_iff.mp hi).1
    have self : (Γ.set i (.ro d))[i]? = some (.ro d) := List.getElem?_set_self hlt
    have other : ∀ j, j ≠ i → (Γ.set i (.ro d))[j]? = Γ[j]? := fun j n => List.getElem?_set_ne (Ne.symm n)
    have nj : ∀ j b' d', (Γ.set i (.ro d))[j]? = some (Slot.own b' d') → j ≠ i ∧ Γ[j]? = some (Slot.own b' d') := fun j b' d' h => by
      by_cases z : j = i
      · subst z; rw [self] at h; cases h
      · exact ⟨z, (other j z).symm.trans h⟩
    refine ⟨L2.upd G p ob, ⟨fun a u h => ?_, fun j e h => ?_, fun j b' d' h => ?_, fun i' j' b' c' d' e' p' q1 q2 q3 q4 => ?_, o.exG.trans eg, o.keep, fun a u h g => ?_, fun j ns h => ?_, fun j p' hj => ?_, by show σ.length = (Γ.set i (.ro d)).length; rw [List.length_set]; exact o.len, fun j a h => ⟨(o.pin j a h).1, (other j fun y => by have w := (o.pin j a h).2; rw [y, hi] at w; cases w).trans (o.pin j a h).2⟩, o.kp⟩,
      ⟨s.exG.trans eg, s.keep, fun a u h g' na => ?_, s.dom, fun p' hp' => s.less p' ?_⟩, r.rp eg fun u hu => ?_, eg⟩
    · by_cases ha : a = p
      · subst ha
        rw [L2.upd_same] at h
        exact hp.trans h
      · rw [L2.upd_ne ha] at h
        exact o.sub a u h
    · by_cases z : j = i
      · subst z
        rw [show apd Γ (fz d (.al j)) = Γ.set j (.ro d) from rfl, self] at h
        cases h
        exact ⟨_, h1, r.rp eg fun u hu => by rw [hp] at hu; rw [L2.upd_same]; exact hu⟩
      · rw [show apd Γ (fz d (.al i)) = Γ.set i (.ro d) from rfl, other j z] at h
        obtain ⟨v, h1, h2⟩ := o.ro j e h
        exact ⟨v, h1, h2.ex eg⟩
    · obtain ⟨z, h⟩ := nj j b' d' h
      obtain ⟨p', h1', h2', h3', h4'⟩ := o.own j b' d' h
      have ne : p' ≠ p := fun q => z (o.inj j i b' false d' d p h hi (q ▸ h1') h1)
      exact ⟨p', h1', by rw [L2.upd_ne ne]; exact h2', h3'.move eg rfl, h4'⟩
    · exact o.inj i' j' b' c' d' e' p' (nj _ _ _ q1).2 (nj _ _ _ q2).2 q3 q4
    · have ne : a ≠ p := fun z => by rw [z, hb0 rfl] at h; cases h
      rw [L2.upd_ne ne]
      exact o.thin a u h g
    · by_cases z : j = i
      · subst z
        rw [show apd Γ (fz d (.al j)) = Γ.set j (.ro d) from rfl, self] at h
        cases h
      · rw [show apd Γ (fz d (.al i)) = Γ.set i (.ro d) from rfl, other j z] at h
        obtain ⟨a, h1, h2⟩ := o.scr j ns h
        exact ⟨a, h1, ex_l eg h2⟩
    · obtain ⟨h1', d', h2'⟩ := o.par j p' hj
      have z : j ≠ i := fun z => by subst z; rw [hi] at h2'; cases h2'
      exact ⟨h1', d', (other j z).trans h2'⟩
    · have ne : a ≠ p := fun z => na (z ▸ s.less p ⟨i, false, d, hi, h1⟩)
      rw [L2.upd_ne ne]
      exact s.thin a u h g' na
    · obtain ⟨j, b', d', q1, q2⟩ := hp'
      exact ⟨j, b', d', (nj j b' d' q1).2, q2⟩
    · rw [hp] at hu
      rw [L2.upd_same]
      exact hu
end
end Fd
end
section
set_option maxRecDepth 100000
set_option maxHeartbeats 2000000
namespace Fd
open PySem
structure Exn where
  cls : Str
  pay : Option (Str × D)
inductive R where
  | ok (k : Kd) (d : D) (δ : Dl)
  | ex (c : Exn) (δ : Dl)
def R.pre (δ : Dl) : R → R
  | .ok k d δ' => .ok k d (δ ++ δ')
  | .ex c δ' => .ex c (δ ++ δ')
/-- go on behind a value -/
def R.thn (o : Option R) (f : Kd → D → Dl → Option R) : Option R :=
  match o with
  | some (.ok k d δ) => (f k d δ).map (R.pre δ)
  | some (.ex c δ) => some (.ex c δ)
  | none => none
/-! ### operators on data -/
def small (i : Int) : Bool := decide (-(2 ^ 64) < i) && decide (i < 2 ^ 64)
def ordK : Kd → Bool
  | .sc => false
  | _ => true
def binD (op : Operator) (k l : Kd) (a b : D) : Option (Kd × D) :=
  match op, a, b with
  | .Add, .int i, .int j => some (.ro, .int (i + j))
  | .Sub, .int i, .int j => some (.ro, .int (i - j))
  | .Mult, .int i, .int j => if small i || small j then some (.ro, .int (i * j)) else none
  | .FloorDiv, .int i, .int j => if j ≠ 0 ∧ j.natAbs < 1073741824 then some (.ro, .int (i.fdiv j)) else none
  | .Mod, .int i, .int j => if j ≠ 0 then some (.ro, .int (i.fmod j)) else none
  | .Add, .str x, .str y => if x.length + y.length ≤ sizeLine then some (.ro, .str (x ++ y)) else none
  | .Add, .list x, .list y => if x.length + y.length ≤ sizeLine ∧ ordK k = true ∧ ordK l = true then some (.fr, .list (x ++ y)) else none
  | _, _, _ => none
/-- data that are compared by their values alone -/
def scalD : D → D → Bool
  | .none, .none => true | .none, .int _ => true | .int _, .none => true | .none, .bool _ => true | .bool _, .none => true | .none, .str _ => true | .str _, .none => true
  | .int _, .int _ => true | .bool _, .bool _ => true | .str _, .str _ => true
  | .int _, .str _ => true | .str _, .int _ => true | .bool _, .str _ => true | .str _, .bool _ => true
  | _, _ => false
def flatD : D → Bool
  | .none => true | .bool _ => true | .int _ => true | .str _ => true
  | _ => false
def memD (d : D) (ds : List D) : Bool := ds.any fun e => PyData.eqv e d
def isSub (x y : Str) : Bool := !(Builtin.Str.occurrences y x 0 y.length 1).isEmpty
def cmpD (op : CmpOp) (k l : Kd) (a b : D) : Option Bool :=
  if !(ordK k && ordK l) then none else match op with
  | .Eq => if SeqAt.shaped a && SeqAt.shaped b then some (PyData.eqv a b) else none
  | .NotEq => if SeqAt.shaped a && SeqAt.shaped b then some (!PyData.eqv a b) else none
  | .Lt => match a, b with | .int i, .int j => some (decide (i < j)) | _, _ => none
  | .LtE => match a, b with | .int i, .int j => some (decide (i ≤ j)) | _, _ => none
  | .Gt => match a, b with | .int i, .int j => some (decide (j < i)) | _, _ => none
  | .GtE => match a, b with | .int i, .int j => some (decide (j ≤ i)) | _, _ => none
  | .Is => match b with | .none => some (match a with | .none => true | _ => false) | _ => none
  | .IsNot => match b with | .none => some (match a with | .none => false | _ => true) | _ => none
  | .In => match a, b with
    | .str x, .str y => some (isSub x y)
    | _, .list ds => if flatD a && ds.all flatD then some (memD a ds) else none
    | _, .tuple ds => if flatD a && ds.all flatD then some (memD a ds) else none
    | _, _ => none
  | .NotIn => match a, b with
    | .str x, .str y => some (!isSub x y)
    | _, .list ds => if flatD a && ds.all flatD then some (!memD a ds) else none
    | _, .tuple ds => if flatD a && ds.all flatD then some (!memD a ds) else none
    | _, _ => none
/-- truth -/
def truD : D → Option Bool
  | .none => some false
  | .bool b => some b
  | .int i => some (i != 0)
  | .str x => if x.length ≤ sizeLine then some ((x.length : Int) != 0) else none
  | .list ds => some (!ds.isEmpty)
  | .tuple ds => some (!ds.isEmpty)
  | .dict ds => none
def unD (op : UnaryOp) (a : D) : Option D :=
  match op, a with
  | .USub, .int i => some (.int (-i))
  | _, _ => none
def keyD : D → Option L2.Key
  | .int i => some (.inl i)
  | .str x => some (.inr x)
  | _ => none
def keyB : D → L2.Key → Bool
  | .int i, .inl j => i == j
  | .str x, .inr y => decide (x = y)
  | _, _ => false
def lookD (k : L2.Key) : List (D × D) → Option D
  | [] => none
  | (d, v) :: r => if keyB d k then some v else lookD k r
def putD (k : L2.Key) (x : D) (ds : List (D × D)) : List (D × D) :=
  if ds.any (fun p => keyB p.1 k) = true then ds.map (fun p => if keyB p.1 k = true then (p.1, x) else p) else ds ++ [(kD k, x)]
/-- a display of constants -/
def dctD (kvs : List (D × D)) : List (D × D) := kvs.foldl (fun acc p => match keyD p.1 with
  | some k => putD k p.2 acc
  | none => acc) []
def idxD (a b : D) : Option D :=
  match a, b with
  | .list ds, .int i => L2.atI ds i
  | .tuple ds, .int i => L2.atI ds i
  | .str x, .int i => if x.length ≤ sizeLine then (L2.atI x.cps.toList i).map fun c => .str ⟨#[c]⟩ else none
  | _, _ => none
def idxdD (a b : D) : Option D :=
  match a with
  | .dict kvs => (keyD b).bind fun k => lookD k kvs
  | _ => none
def intsD : List D → Option (List Int)
  | [] => some []
  | .int i :: r => (intsD r).map (i :: ·)
  | _ :: _ => none
def strsD : List D → Option (List Str)
  | [] => some []
  | .str i :: r => (strsD r).map (i :: ·)
  | _ :: _ => none
def boolsD : List D → Option (List Bool)
  | [] => some []
  | .bool i :: r => (boolsD r).map (i :: ·)
  | _ :: _ => none
/-! ### the compact text -/
inductive Tg where
  | nm (i : Nat)
  | tp (is : List Nat)
  | tl (is : List Nat)
inductive Bi where
  | len | int | repr | all | any | sum | tuple | list | isbool | isint | isstr | islist | istuple | abs | min | max | sorted
inductive Mt where
  | append | pop | reverse | extend | join | split | index | count
mutual
inductive E where
  | var (i : Nat)
  | con (d : D)
  | bin (op : Operator) (a b : E)
  | cmp (op : CmpOp) (a b : E)
  | cmp2 (o1 o2 : CmpOp) (a b c : E)
  | and_ (a b : E)
  | or_ (a b : E)
  | not_ (a : E)
  | tand (a b : E)
  | tor (a b : E)
  | un (op : UnaryOp) (a : E)
  | ite (c a b : E)
  | lst (es : Es)
  | tup (es : Es)
  | dctc (kvs : List (D × D))
  | idx (a i : E)
  | idxd (a i : E)
  | slc (a lo hi : E)
  | nop
  | call (f : Nat) (es : Es)
  | bi (b : Bi) (es : Es)
  | mt (m : Mt) (o : E) (es : Es)
  | rng1 (a : E)
  | rng2 (a b : E)
  | lc (elt : E) (own : List Nat) (tg : Tg) (it : E) (cond : E)
inductive Es where
  | nil
  | cons (e : E) (es : Es)
end
inductive Md where
  | bo | fz | io | sc
inductive RA where
  | ok (kds : List (Kd × D)) (δ : Dl)
  | ex (c : Exn) (δ : Dl)
/-- a def's worth: how its arguments are handed, what comes of data -/
inductive FR where
  | ok (fresh : Bool) (d : D) (outs : List D)
  | ex (c : Exn) (outs : List D)
structure Fc where
  ms : List Md
  f : List D → Option FR
def modeAt (ms : List Md) (i : Nat) : Md := ms.getD i .fz
/-- what an argument turns to -/
def pass (Γ : Ev) (m : Md) (k : Kd) (d : D) : Option (Kd × Dl) :=
  match m with
  | .bo => some (k, [])
  | .fz => if fzOk Γ k then some (.ro, fz d k) else none
  | .io => match k with
    | .al i => some (.al i, [])
    | _ => none
  | .sc => match k with
    | .sc => some (.sc, [])
    | _ => none
/-- the slot that is handed on to be changed -/
def ioIx (m : Nat → Md) : List (Kd × D) → List Nat
  | [] => []
  | (k, _) :: r => match m 0, k with
    | .io, .al i => i :: ioIx (fun n => m (n + 1)) r
    | _, _ => ioIx (fun n => m (n + 1)) r
/-- .. and comes back -/
def outD (Γ : Ev) : List Nat → List D → Option Dl
  | [], [] => some []
  | [i], [o] => match Γ[i]? with
    | some (.own b _) => some [(i, .own b o)]
    | _ => none
  | _, _ => none
def setOk (Γ : Ev) (i : Nat) : Bool :=
  match Γ[i]? with
  | some (.own true _) => false
  | some .pin => false
  | some _ => true
  | none => false
def setSeq (Γ : Ev) : List Nat → List D → Option Ev
  | [], [] => some Γ
  | i :: is, d :: ds => if setOk Γ i then setSeq (Γ.set i (.ro d)) is ds else none
  | _, _ => none
def setTg (Γ : Ev) (d : D) : Tg → Option Ev
  | .nm i => if setOk Γ i then some (Γ.set i (.ro d)) else none
  | .tp is => match d with
    | .tuple ds => setSeq Γ is ds
    | _ => none
  | .tl is => match d with
    | .list ds => setSeq Γ is ds
    | _ => none
def tgIx : Tg → List Nat
  | .nm i => [i]
  | .tp is => is
  | .tl is => is
def notOwn (Γ : Ev) (j : Nat) : Bool :=
  match Γ[j]? with
  | some (.own _ _) => false
  | some .pin => false
  | some _ => true
  | none => false
def wipeE (Γ : Ev) : List Nat → Ev
  | [] => Γ
  | v :: vs => (wipeE Γ vs).set v .no
def lcL (g : Ev → D → Option (List D × Dl)) (k : Kd) : List D → Ev → Option (List D × Dl)
  | [], _ => some ([], [])
  | d :: ds, Γ => match g Γ d with
    | some (o, δ) => if keeps δ k then match lcL g k ds (apd Γ δ) with
      | some (r, δ') => some (o ++ r, δ ++ δ')
      | none => none
      else none
    | none => none
def rngD (a b : Int) : List D := (List.range (b - a).toNat).map fun (n : Nat) => PyData.int (a + (n : Int))
def okR (i : Int) : Bool := decide (-(2 ^ 62) ≤ i) && decide (i < 2 ^ 62)
def cutD (xs : List D) (lo hi : Option Int) : List D := (xs.drop (HT.sIx xs.length 0 lo)).take (HT.sIx xs.length xs.length hi - HT.sIx xs.length 0 lo)
def isNop : E → Bool
  | .nop => true
  | _ => false
def partD (n : Bool) (d : D) : Option (Option Int) :=
  if n then some none else match d with
  | .int i => some (some i)
  | _ => none
/-- built-in functions -/
def biD (b : Bi) (kds : List (Kd × D)) : Option (Kd × D) :=
  match b, kds with
  | .len, [(_, .str x)] => if x.length ≤ sizeLine then some (.ro, .int x.length) else none
  | .len, [(_, .list ds)] => some (.ro, .int ds.length)
  | .len, [(_, .tuple ds)] => some (.ro, .int ds.length)
  | .int, [(_, .int i)] => some (.ro, .int i)
  | .int, [(_, .bool c)] => some (.ro, .int (if c then 1 else 0))
  | .repr, [(k, d)] => if ordK k && d.showable && !d.hasDict && decide (d.depth ≤ 63) && decide (d.shown.length ≤ sizeLine) then some (.ro, .str d.shown) else none
  | .all, [(_, .list ds)] => (boolsD ds).map fun bs => (.ro, .bool (bs.all id))
  | .any, [(_, .list ds)] => (boolsD ds).map fun bs => (.ro, .bool (bs.any id))
  | .sum, [(_, .list ds)] => (intsD ds).map fun ns => (.ro, .int ns.sum)
  | .tuple, [(k, .list ds)] => if ordK k then some (.ro, .tuple ds) else none
  | .tuple, [(_, .tuple ds)] => some (.ro, .tuple ds)
  | .list, [(_, .list ds)] => some (.fr, .list ds)
  | .list, [(_, .tuple ds)] => some (.fr, .list ds)
  | .isbool, [(_, d)] => some (.ro, .bool (match d with | .bool _ => true | _ => false))
  | .isint, [(_, d)] => some (.ro, .bool (match d with | .bool _ => true | .int _ => true | _ => false))
  | .isstr, [(_, d)] => some (.ro, .bool (match d with | .str _ => true | _ => false))
  | .islist, [(_, d)] => some (.ro, .bool (match d with | .list _ => true | _ => false))
  | .istuple, [(_, d)] => some (.ro, .bool (match d with | .tuple _ => true | _ => false))
  | .abs, [(_, .int i)] => some (.ro, .int (if i < 0 then -i else i))
  | .min, [(_, .int i), (_, .int j)] => some (.ro, .int (if j < i then j else i))
  | .max, [(_, .int i), (_, .int j)] => some (.ro, .int (if j > i then j else i))
  | _, _ => none
/-- methods that change nothing -/
def mtD (m : Mt) (o : D) (kds : List (Kd × D)) : Option (Kd × D) :=
  match m, o, kds with
  | .join, .str x, [(_, .list ds)] => (strsD ds).bind fun ys => if (ys.map (·.length)).sum + ys.length * x.length ≤ 16777216 then some (.ro, .str (Txt.join x ys)) else none
  | .split, .str x, [(_, .str y)] => if (y.length == 0) = false ∧ x.length + 2 ≤ sizeLine then some (.fr, .list ((Txt.split x y).map PyData.str)) else none
  | _, _, _ => none
/-- methods that change a list of one's own: what comes back, the list then -/
def muD (m : Mt) (ds : List D) (kds : List (Kd × D)) : Option (D × List D) :=
  match m, kds with
  | .append, [(.ro, d)] => if ds.length < sizeLine then some (.none, ds ++ [d]) else none
  | .pop, [] => match ds.getLast? with
    | some d => some (d, ds.dropLast)
    | none => none
  | .reverse, [] => some (.none, ds.reverse)
  | .extend, [(k, .list es)] => if ordK k ∧ ds.length + es.length ≤ sizeLine then some (.none, ds ++ es) else none
  | _, _ => none
def muts : Mt → Bool
  | .append | .pop | .reverse | .extend => true
  | _ => false
def mtMode : Mt → Md
  | .append => .fz
  | _ => .bo
/-- the type whose method it is -/
def mtTy (m : Mt) (k : Kd) (d : D) : Option String :=
  match d with
  | .list _ => match m, k with
    | .append, .al _ => some "list"
    | .pop, .al _ => some "list"
    | .reverse, .al _ => some "list"
    | .extend, .al _ => some "list"
    | .index, _ => some "list"
    | .count, _ => some "list"
    | _, _ => none
  | .str _ => match m with
    | .join => some "str"
    | .split => some "str"
    | .index => some "str"
    | .count => some "str"
    | _ => none
  | _ => none
def sets (i : Nat) (Γ : Ev) (ds : List D) : Dl :=
  match Γ[i]? with
  | some (.own b _) => [(i, .own b (.list ds))]
  | _ => []
/-- what is walked -/
def itD : D → Option (List D)
  | .list ds => some ds
  | .tuple ds => some ds
  | .str x => some (x.cps.toList.map fun c => PyData.str ⟨#[c]⟩)
  | _ => none
mutual
def evalE (T : Nat → Option Fc) : E → Ev → Option R
  | .var i, Γ => match Γ[i]? with
    | some (.ro d) => some (.ok .ro d [])
    | some (.own _ d) => some (.ok (.al i) d [])
    | some (.scr ns) => some (.ok .sc (.list (ns.map PyData.int)) [])
    | _ => none
  | .con d, _ => if flatD d then some (.ok .ro d []) else none
  | .bin op a b, Γ => R.thn (evalE T a Γ) fun k1 d1 δ1 => R.thn (evalE T b (apd Γ δ1)) fun k2 d2 δ2 =>
      if keeps δ2 k1 then (binD op k1 k2 d1 d2).map fun p => .ok p.1 p.2 [] else none
  | .cmp op a b, Γ => R.thn (evalE T a Γ) fun k1 d1 δ1 => R.thn (evalE T b (apd Γ δ1)) fun k2 d2 δ2 =>
      if keeps δ2 k1 then (cmpD op k1 k2 d1 d2).map fun c => .ok .ro (.bool c) [] else none
  | .cmp2 o1 o2 a b c, Γ => R.thn (evalE T a Γ) fun k1 d1 δ1 => R.thn (evalE T b (apd Γ δ1)) fun k2 d2 δ2 =>
      if keeps δ2 k1 then match cmpD o1 k1 k2 d1 d2 with
        | some true => R.thn (evalE T c (apd (apd Γ δ1) δ2)) fun k3 d3 δ3 => if keeps δ3 k2 then (cmpD o2 k2 k3 d2 d3).map fun c => .ok .ro (.bool c) [] else none
        | some false => some (.ok .ro (.bool false) [])
        | none => none
      else none
  | .and_ a b, Γ => R.thn (evalE T a Γ) fun k1 d1 δ1 => match d1 with
    | .bool true => evalE T b (apd Γ δ1)
    | .bool false => some (.ok .ro (.bool false) [])
    | _ => none
  | .or_ a b, Γ => R.thn (evalE T a Γ) fun k1 d1 δ1 => match d1 with
    | .bool false => evalE T b (apd Γ δ1)
    | .bool true => some (.ok .ro (.bool true) [])
    | _ => none
  | .not_ a, Γ => R.thn (evalE T a Γ) fun k1 d1 δ1 => (truD d1).map fun c => .ok .ro (.bool !c) []
  | .tand a b, Γ => R.thn (evalE T a Γ) fun k1 d1 δ1 => match truD d1 with
    | some true => R.thn (evalE T b (apd Γ δ1)) fun k2 d2 δ2 => (truD d2).map fun c => .ok .ro (.bool c) []
    | some false => some (.ok .ro (.bool false) [])
    | none => none
  | .tor a b, Γ => R.thn (evalE T a Γ) fun k1 d1 δ1 => match truD d1 with
    | some false => R.thn (evalE T b (apd Γ δ1)) fun k2 d2 δ2 => (truD d2).map fun c => .ok .ro (.bool c) []
    | some true => some (.ok .ro (.bool true) [])
    | none => none
  | .un op a, Γ => R.thn (evalE T a Γ) fun k1 d1 δ1 => (unD op d1).map fun d => .ok .ro d []
  | .ite c a b, Γ => R.thn (evalE T c Γ) fun k1 d1 δ1 => match truD d1 with
    | some true => evalE T a (apd Γ δ1)
    | some false => evalE T b (apd Γ δ1)
    | none => none
  | .lst es, Γ => match evalA T (fun _ => .fz) es Γ with
    | some (.ok kds δ) => if kds.length ≤ sizeLine then some (.ok .fr (.list (kds.map (·.2))) δ) else none
    | some (.ex c δ) => some (.ex c δ)
    | none => none
  | .tup es, Γ => match evalA T (fun _ => .fz) es Γ with
    | some (.ok kds δ) => if kds.length ≤ sizeLine then some (.ok .ro (.tuple (kds.map (·.2))) δ) else none
    | some (.ex c δ) => some (.ex c δ)
    | none => none
  | .dctc kvs, _ => if kvs.all (fun p => (keyD p.1).isSome && flatD p.2) && decide (kvs.length ≤ 15) && !kvs.isEmpty then some (.ok .fr (.dict (dctD kvs)) []) else none
  | .idx a b, Γ => R.thn (evalE T a Γ) fun k1 d1 δ1 => R.thn (evalE T b (apd Γ δ1)) fun k2 d2 δ2 =>
      if keeps δ2 k1 then (idxD d1 d2).map fun d => .ok .ro d [] else none
  | .idxd a b, Γ => R.thn (evalE T a Γ) fun k1 d1 δ1 => R.thn (evalE T b (apd Γ δ1)) fun k2 d2 δ2 =>
      if keeps δ2 k1 then (idxdD d1 d2).map fun d => .ok .ro d [] else none
  | .slc a lo hi, Γ => R.thn (evalE T a Γ) fun k1 d1 δ1 => R.thn (evalE T lo (apd Γ δ1)) fun k2 d2 δ2 => match partD (isNop lo) d2 with
      | some l => R.thn (evalE T hi (apd (apd Γ δ1) δ2)) fun k3 d3 δ3 =>
        if keeps δ2 k1 && keeps δ3 k1 then match partD (isNop hi) d3, d1 with
          | some h, .str x => if x.length ≤ sizeLine then some (.ok .ro (.str (L2.cutS x l h)) []) else none
          | some h, .list ds => some (.ok .fr (.list (cutD ds l h)) [])
          | _, _ => none
        else none
      | none => none
  | .nop, _ => some (.ok .ro .none [])
  | .call f es, Γ => match T f with
    | some F => match evalA T (modeAt F.ms) es Γ with
      | some (.ok kds δ) => match F.f (kds.map (·.2)) with
        | some (.ok fresh d outs) => (outD (apd Γ δ) (ioIx (modeAt F.ms) kds) outs).map fun δ' => .ok (if fresh then .fr else .ro) d (δ ++ δ')
        | some (.ex c outs) => (outD (apd Γ δ) (ioIx (modeAt F.ms) kds) outs).map fun δ' => .ex c (δ ++ δ')
        | none => none
      | some (.ex c δ) => some (.ex c δ)
      | none => none
    | none => none
  | .bi b es, Γ => match evalA T (fun _ => .bo) es Γ with
    | some (.ok kds δ) => (biD b kds).map fun p => .ok p.1 p.2 δ
    | some (.ex c δ) => some (.ex c δ)
    | none => none
  | .mt m o es, Γ => R.thn (evalE T o Γ) fun k1 d1 δ1 => match mtTy m k1 d1 with
   | none => none
   | some _ => match evalA T (fun _ => mtMode m) es (apd Γ δ1) with
    | some (.ok kds δ2) => if keeps δ2 k1 then
        if muts m then match k1, d1 with
          | .al i, .list ds => (muD m ds kds).map fun p => .ok .ro p.1 (δ2 ++ sets i (apd (apd Γ δ1) δ2) p.2)
          | _, _ => none
        else (mtD m d1 kds).map fun p => .ok p.1 p.2 δ2
      else none
    | some (.ex c δ2) => some (.ex c δ2)
    | none => none
  | .rng1 a, Γ => R.thn (evalE T a Γ) fun k1 d1 δ1 => match d1 with
    | .int n => if okR n then some (.ok .ro (.list (rngD 0 n)) []) else none
    | _ => none
  | .rng2 a b, Γ => R.thn (evalE T a Γ) fun k1 d1 δ1 => R.thn (evalE T b (apd Γ δ1)) fun k2 d2 δ2 => match d1, d2 with
    | .int n, .int m => if okR n && okR m && keeps δ2 k1 then some (.ok .ro (.list (rngD n m)) []) else none
    | _, _ => none
  | .lc elt own tg it cond, Γ => R.thn (evalE T it Γ) fun k1 d1 δ1 =>
      match itD d1 with
      | some ds => if ds.length ≤ sizeLine ∧ (tgIx tg).all (fun j => own.contains j) = true then
          (lcL (fun Γ d => if own.all (notOwn Γ) then match setTg (wipeE Γ own) d tg with
          | some Γ1 => match evalE T cond Γ1 with
            | some (.ok _ dc δc) => match truD dc with
              | some true => match evalE T elt (apd Γ1 δc) with
                | some (.ok k d δ) => if fzOk (apd (apd Γ1 δc) δ) k && own.all (fun j => !hit (δc ++ (δ ++ fz d k)) j) then some ([d], δc ++ (δ ++ fz d k)) else none
                | _ => none
              | some false => if own.all (fun j => !hit δc j) then some ([], δc) else none
              | none => none
            | _ => none
          | none => none
          else none) k1 ds (apd Γ δ1)).map fun p => .ok .fr (.list p.1) p.2
        else none
      | none => none
def evalA (T : Nat → Option Fc) (m : Nat → Md) : Es → Ev → Option RA
  | .nil, _ => some (.ok [] [])
  | .cons e es, Γ => match evalE T e Γ with
    | some (.ok k d δ) => match pass (apd Γ δ) (m 0) k d with
      | some (k', δ') => match evalA T (fun n => m (n + 1)) es (apd Γ (δ ++ δ')) with
        | some (.ok kds δ2) => if keeps δ2 k' then some (.ok ((k', d) :: kds) (δ ++ δ' ++ δ2)) else none
        | some (.ex c δ2) => some (.ex c (δ ++ δ' ++ δ2))
        | none => none
      | none => none
    | some (.ex c δ) => some (.ex c δ)
    | none => none
end
end Fd
end
section
set_option maxRecDepth 100000
set_option maxHeartbeats 2000000
namespace Fd
open PySem
def ExI (mg : Str → Option Value) (K : Frag) (G H : Hp) (c : Exn) (cls : Value) (dd : Option Addr) : Prop :=
  ∃ C, mg c.cls = some (.ref C) ∧ cls = .ref C ∧ match c.pay with
    | none => dd = none
    | some (f, d) => ∃ a v, dd = some a ∧ H a = some (.xd [(f, v)]) ∧ Rp K G v d
abbrev ExIs (X : L2.Cx) := ExI X.mg X.K
def Pst (X : L2.Cx) (W : L2.WX) (B : Bs) (σ : L2.St) (Γ : Ev) (G H : Hp) (r : R) (Q : L2.VK) : Prop :=
  match r with
  | .ok k d δ => ∀ v G' H', Ok B X.K G' H' σ (apd Γ δ) → Stp σ Γ G H (apd Γ δ) G' H' → Vl B X.K σ (apd Γ δ) G' H' k d v → (k = .fr → ∀ p, v = .ref p → H p = none) → Q v H'
  | .ex c δ => ∀ cls dd G' H', Ok B X.K G' H' σ (apd Γ δ) → Stp σ Γ G H (apd Γ δ) G' H' → ExIs X G' H' c cls dd → W cls dd σ H'
def tD (X : L2.Cx) (W : L2.WX) (B : Bs) (Γ : Ev) (r : R) : L2.TE := fun σ H Q => ∃ G, Ok B X.K G H σ Γ ∧ Pst X W B σ Γ G H r Q
def SE (T : Nat → Option Fc) (X : L2.Cx) (W : L2.WX) (B : Bs) (e : Expr) (c : E) : Prop := ∀ Γ r, evalE T c Γ = some r → L2.PE X e (tD X W B Γ r)
theorem pe_imp {X : L2.Cx} {e : Expr} {t t' : L2.TE} (h : L2.PE X e t) (i : ∀ σ H Q, t' σ H Q → t σ H Q) : L2.PE X e t' := ⟨fun pins s σ H Q I q => h.run pins s σ H Q I (i σ H Q q)⟩
theorem pe_no {X : L2.Cx} {e : Expr} : L2.PE X e fun _ _ _ => False := ⟨fun _ _ _ _ _ _ h => h.elim⟩
theorem thn_some {o : Option R} {f : Kd → D → Dl → Option R} {r : R} (h : R.thn o f = some r) :
    (∃ c δ, o = some (.ex c δ) ∧ r = .ex c δ) ∨ ∃ k d δ r', o = some (.ok k d δ) ∧ f k d δ = some r' ∧ r = r'.pre δ := by
  unfold R.thn at h
  split at h
  · obtain ⟨r', h1, h2⟩ := Option.map_eq_some_iff.mp h
    exact .inr ⟨_, _, _, r', rfl, h1, h2.symm⟩
  · exact .inl ⟨_, _, rfl, (Option.some.inj h).symm⟩
  · cases h
section
variable {T : Nat → Option Fc} {X : L2.Cx} {W : L2.WX} {B : Bs} {G G' H H' : Hp} {σ : L2.St} {Γ Γ' : Ev} {k : Kd} {d : D} {v : V} {r : R} {Q : L2.VK} {δ : Dl}
theorem Pst.pre (h : Pst X W B σ Γ G H (r.pre δ) Q) (s : Stp σ Γ G H (apd Γ δ) G' H') : Pst X W B σ (apd Γ δ) G' H' r Q := by
  cases r with
  | ok k d δ' =>
    intro v G2 H2 o2 s2 v2 n2
    have h : Pst X W B σ Γ G H (.ok k d (δ ++ δ')) Q := h
    have e := apd_append Γ δ δ'
    unfold Pst at h
    simp only [e] at h
    refine h v G2 H2 o2 (s.trans s2) v2 fun hk p hp => ?_
    have z := n2 hk p hp
    cases q : H p with
    | none => rfl
    | some u =>
      obtain ⟨u', h'⟩ := s.dom p u q
      rw [z] at h'
      cases h'
  | ex c δ' =>
    intro cls dd G2 H2 o2 s2 x2
    have h : Pst X W B σ Γ G H (.ex c (δ ++ δ')) Q := h
    have e := apd_append Γ δ δ'
    unfold Pst at h
    simp only [e] at h
    exact h cls dd G2 H2 o2 (s.trans s2) x2
theorem Pst.stp (h : Pst X W B σ Γ G H r Q) (s : Stp σ Γ G H Γ G' H') : Pst X W B σ Γ G' H' r Q := by
  cases r with
  | ok k d δ' =>
    intro v G2 H2 o2 s2 v2 n2
    refine h v G2 H2 o2 (s.trans s2) v2 fun hk p hp => ?_
    have z := n2 hk p hp
    cases q : H p with
    | none => rfl
    | some u =>
      obtain ⟨u', h'⟩ := s.dom p u q
      rw [z] at h'
      cases h'
  | ex c δ' => exact fun cls dd G2 H2 o2 s2 x2 => h cls dd G2 H2 o2 (s.trans s2) x2
/-- an end with nothing changed -/
theorem Pst.fin {k : Kd} (h : Pst X W B σ Γ G H (.ok k d []) Q) (o : Ok B X.K G' H' σ Γ) (s : Stp σ Γ G H Γ G' H') (v' : Vl B X.K σ Γ G' H' k d v) (n : k = .fr → ∀ p, v = .ref p → H p = none) : Q v H' := h v G' H' o s v' n
theorem Pst.ro (h : Pst X W B σ Γ G H (.ok .ro d []) Q) (o : Ok B X.K G H σ Γ) (v' : Rp X.K G v d) : Q v H := h v G H o Stp.refl v' (fun z => nomatch z)
theorem Pst.newL {ds : List D} {vs : List V} (h : Pst X W B σ Γ G H (.ok .fr (.list ds) []) Q) (o : Ok B X.K G H σ Γ) (r : RpA X.K G vs ds) : ∀ p, H p = none → Q (.ref p) (L2.upd H p (.lst vs)) := fun p hp =>
  h (.ref p) G _ (o.new hp) (Stp.new o hp) (Vl.newL o hp r) fun _ q e => by cases e; exact hp
theorem Pst.newT {ds : List D} {vs : List V} (h : Pst X W B σ Γ G H (.ok .ro (.tuple ds) []) Q) (o : Ok B X.K G H σ Γ) (r : RpA X.K G vs ds) : ∀ p, H p = none → Q (.ref p) (L2.upd H p (.tup vs)) := fun p hp =>
  h (.ref p) (L2.upd G p (.tup vs)) _ (o.newF hp) (Stp.newF o hp) (.tup (L2.SqT.of L2.upd_same) (r.ex (Ex.put (o.sub.back hp)))) fun z => nomatch z
/-! ### names and constants -/
theorem se_var {i : Nat} {x : Str} {pos : Pos} (h : L2.PE X (.Name x pos) (L2.tVar i)) : SE T X W B (.Name x pos) (.var i) := by
  intro Γ r hr
  refine pe_imp h fun σ H Q ⟨G, o, q⟩ => ?_
  unfold evalE at hr
  split at hr
  · rename_i d hg
    cases hr
    obtain ⟨v, h1, h2⟩ := o.ro i _ hg
    exact ⟨v, h1, q.ro o h2⟩
  · rename_i b d hg
    cases hr
    obtain ⟨p, h1, h2, h3, h4⟩ := o.own i b _ hg
    exact ⟨.ref p, h1, q.fin o Stp.refl ⟨⟨b, hg⟩, h1⟩ (fun z => nomatch z)⟩
  · rename_i ns hg
    cases hr
    obtain ⟨a, h1, h2⟩ := o.scr i _ hg
    exact ⟨.ref a, h1, q.fin o Stp.refl ⟨a, ns, rfl, rfl, h2⟩ (fun z => nomatch z)⟩
  · cases hr
def vD : D → V
  | .none => .non
  | .bool b => .bl b
  | .int i => .int i
  | .str x => .str x
  | _ => .non
theorem Rp.vD {K : Frag} {G : Hp} {d : D} (h : flatD d = true) : Rp K G (vD d) d := by
  cases d <;> first | constructor | cases h
theorem se_con {e : Expr} {d : D} (h : L2.PE X e (L2.tC (vD d))) : SE T X W B e (.con d) := by
  intro Γ r hr
  refine pe_imp h fun σ H Q ⟨G, o, q⟩ => ?_
  unfold evalE at hr
  split at hr
  · rename_i hf
    cases hr
    exact q.ro o (Rp.vD hf)
  · cases hr
theorem se_int {i : Int} {j : Nat} {pos : Pos} : SE T X W B (.Constant (.int i) j pos) (.con (.int i)) := se_con L2.pe_int
theorem se_str {x : Str} {j : Nat} {pos : Pos} : SE T X W B (.Constant (.str x) j pos) (.con (.str x)) := se_con L2.pe_str
theorem se_bl {b : Bool} {j : Nat} {pos : Pos} : SE T X W B (.Constant (.bool b) j pos) (.con (.bool b)) := se_con L2.pe_bl
theorem se_non {j : Nat} {pos : Pos} : SE T X W B (.Constant .none j pos) (.con .none) := se_con L2.pe_non
/-! ### two operands -/
/-- what an operation on values asks, by the data -/
def Op2 (X : L2.Cx) (W : L2.WX) (B : Bs) (P : L2.R2 → Prop) (F : Kd → Kd → D → D → Option (Kd × D)) : Prop :=
  ∀ k1 k2 d1 d2 k d, F k1 k2 d1 d2 = some (k, d) → ∃ r : L2.R2, P r ∧ ∀ (Γ : Ev) (σ : L2.St) (G H : Hp) (v1 v2 : V) (Q : L2.VK), Ok B X.K G H σ Γ → Vl B X.K σ Γ G H k1 d1 v1 → Vl B X.K σ Γ G H k2 d2 v2 →
    Pst X W B σ Γ G H (.ok k d []) Q → r v1 v2 H Q
theorem two {e a b : Expr} {ca cb : E} {P : L2.R2 → Prop} {F : Kd → Kd → D → D → Option (Kd × D)} (pf : P fun _ _ _ _ => False)
    (mk : ∀ {r : L2.R2} {ta tb : L2.TE}, P r → L2.PE X a ta → L2.PE X b tb → L2.PE X e (L2.tOp r ta tb)) (ha : SE T X W B a ca) (hb : SE T X W B b cb) (hF : Op2 X W B P F) (Γ : Ev) (r : R)
    (h : (R.thn (evalE T ca Γ) fun k1 d1 δ1 => R.thn (evalE T cb (apd Γ δ1)) fun k2 d2 δ2 => if keeps δ2 k1 then (F k1 k2 d1 d2).map fun p => .ok p.1 p.2 [] else none) = some r) : L2.PE X e (tD X W B Γ r) := by
  rcases thn_some h with ⟨c, δ, h1, rfl⟩ | ⟨k1, d1, δ1, r', h1, h2, rfl⟩
  · exact pe_imp (mk pf (ha Γ _ h1) pe_no) fun σ H Q q => q
  · rcases thn_some h2 with ⟨c, δ, h3, rfl⟩ | ⟨k2, d2, δ2, r'', h3, h4, rfl⟩
    · refine pe_imp (mk pf (ha Γ _ h1) (hb _ _ h3)) fun σ H Q ⟨G, o, q⟩ => ?_
      refine ⟨G, o, fun v G1 H1 o1 s1 _ _ => ⟨G1, o1, ?_⟩⟩
      exact Pst.pre q s1
    · split at h4
      · rename_i hk
        obtain ⟨⟨k, d⟩, h5, rfl⟩ := Option.map_eq_some_iff.mp h4
        obtain ⟨rr, hp, hr⟩ := hF k1 k2 d1 d2 k d h5
        refine pe_imp (mk hp (ha Γ _ h1) (hb _ _ h3)) fun σ H Q ⟨G, o, q⟩ => ?_
        refine ⟨G, o, fun v1 G1 H1 o1 s1 w1 _ => ⟨G1, o1, fun v2 G2 H2 o2 s2 w2 _ => ?_⟩⟩
        exact hr _ σ G2 H2 v1 v2 Q o2 (w1.step o2 s2 hk) w2 ((Pst.pre q s1).pre s2)
      · cases h4
end
end Fd
end
section
set_option maxRecDepth 100000
set_option maxHeartbeats 2000000
namespace Fd
open PySem
/-- what the surroundings allow -/
structure Ctx (X : L2.Cx) : Prop where
  un : X.A.units + 64 < cLine
  gd : X.A.guards = some []
section
variable {T : Nat → Option Fc} {X : L2.Cx} {W : L2.WX} {B : Bs} {G G' H H' : Hp} {σ : L2.St} {Γ Γ' : Ev} {k : Kd} {d : D} {v : V} {r : R} {Q : L2.VK} {δ : Dl}
theorem Vl.int {i : Int} (o : Ok B X.K G H σ Γ) (h : Vl B X.K σ Γ G H k (.int i) v) : v = .int i := (h.flat o rfl).int_inv
theorem Vl.str {i : Str} (o : Ok B X.K G H σ Γ) (h : Vl B X.K σ Γ G H k (.str i) v) : v = .str i := (h.flat o rfl).str_inv
theorem Vl.bl {i : Bool} (o : Ok B X.K G H σ Γ) (h : Vl B X.K σ Γ G H k (.bool i) v) : v = .bl i := (h.flat o rfl).bl_inv
theorem Vl.non (o : Ok B X.K G H σ Γ) (h : Vl B X.K σ Γ G H k .none v) : v = .non := (h.flat o rfl).non_inv
theorem Vl.ref (o : Ok B X.K G H σ Γ) (h : Vl B X.K σ Γ G H k d v) (hd : flatD d = false) : ∃ a, v = .ref a := by
  cases k with
  | ro => cases h <;> first | exact ⟨_, rfl⟩ | cases hd
  | fr => obtain ⟨p, rfl, _⟩ := h; exact ⟨_, rfl⟩
  | sc => obtain ⟨p, _, rfl, _⟩ := h; exact ⟨_, rfl⟩
  | al i =>
    obtain ⟨⟨b, h⟩, h2⟩ := h
    obtain ⟨p, e, _⟩ := o.own i b d h
    rw [e] at h2
    exact ⟨p, (Option.some.inj (Option.some.inj h2)).symm⟩
theorem Vl.flatV {d : D} (o : Ok B X.K G H σ Γ) (h : Vl B X.K σ Γ G H k d v) (hd : flatD d = true) : v = Fd.vD d := by
  cases d with
  | none => exact h.non o
  | bool b => exact h.bl o
  | int i => exact h.int o
  | str x => exact h.str o
  | _ => cases hd
theorem or_false_two {op : Operator} : L2.OpR X (binaryOp op) fun _ _ _ _ => False := fun _ _ _ _ _ _ _ _ _ _ _ _ h => h.elim
theorem cmp_false {op : CmpOp} : L2.OpR X (compareOp op) fun _ _ _ _ => False := fun _ _ _ _ _ _ _ _ _ _ _ _ h => h.elim
theorem bin_op (op : Operator) : Op2 X W B (fun r => L2.OpR X (binaryOp op) r) (binD op) := by
  intro k1 k2 d1 d2 k d h
  unfold binD at h
  split at h
  · rename_i i j
    cases h
    refine ⟨_, L2.op_add, fun Γ σ G H v1 v2 Q o w1 w2 q => ?_⟩
    rw [w1.int o, w2.int o]
    exact ⟨i, j, rfl, rfl, q.ro o (.int _)⟩
  · rename_i i j
    cases h
    refine ⟨_, L2.op_sub, fun Γ σ G H v1 v2 Q o w1 w2 q => ?_⟩
    rw [w1.int o, w2.int o]
    exact ⟨i, j, rfl, rfl, q.ro o (.int _)⟩
  · rename_i i j
    split at h
    · rename_i hs
      cases h
      refine ⟨_, L2.op_mul, fun Γ σ G H v1 v2 Q o w1 w2 q => ?_⟩
      rw [w1.int o, w2.int o]
      refine ⟨i, j, rfl, rfl, ?_, q.ro o (.int _)⟩
      simp only [small, Bool.or_eq_true, Bool.and_eq_true, decide_eq_true_eq] at hs
      exact hs
    · cases h
  · rename_i i j
    split at h
    · rename_i hs
      cases h
      refine ⟨_, L2.op_fdivN, fun Γ σ G H v1 v2 Q o w1 w2 q => ?_⟩
      rw [w1.int o, w2.int o]
      exact ⟨i, j, rfl, rfl, hs, q.ro o (.int _)⟩
    · cases h
  · rename_i i j
    split at h
    · rename_i hs
      cases h
      refine ⟨_, L2.op_modN, fun Γ σ G H v1 v2 Q o w1 w2 q => ?_⟩
      rw [w1.int o, w2.int o]
      exact ⟨i, j, rfl, rfl, hs, q.ro o (.int _)⟩
    · cases h
  · rename_i x y
    split at h
    · rename_i hs
      cases h
      refine ⟨_, L2.op_add_str, fun Γ σ G H v1 v2 Q o w1 w2 q => ?_⟩
      rw [w1.str o, w2.str o]
      exact ⟨x, y, rfl, rfl, hs, q.ro o (.str _)⟩
    · cases h
  · rename_i x y
    split at h
    · rename_i hs
      obtain ⟨hz, hk1, hk2⟩ := hs
      cases h
      refine ⟨_, L2.op_cat, fun Γ σ G H v1 v2 Q o w1 w2 q => ?_⟩
      obtain ⟨a, vs, rfl, ha, ra⟩ := w1.itemsM o (by rintro rfl; cases hk1)
      obtain ⟨b, ws, rfl, hb, rb⟩ := w2.itemsM o (by rintro rfl; cases hk2)
      refine ⟨a, b, vs, ws, rfl, rfl, ha, hb, by rw [ra.length, rb.length]; exact hz, ?_⟩
      exact q.newL o (ra.append rb)
    · cases h
  · cases h
theorem se_bin {op : Operator} {a b : Expr} {ca cb : E} {pos : Pos} (ha : SE T X W B a ca) (hb : SE T X W B b cb) : SE T X W B (.BinOp a op b pos) (.bin op ca cb) := by
  intro Γ r h
  unfold evalE at h
  exact two (P := fun r => L2.OpR X (binaryOp op) r) or_false_two (fun ho ha hb => L2.pe_op ho ha hb) ha hb (bin_op op) Γ r h
/-! ### comparisons -/
theorem noDict_shaped {d : D} (h : SeqAt.shaped d = true) : d.hasDict = false := PyData.hasDict_of_canLay d (SeqAt.canLay_of_shaped h)
theorem eqV_flat {d e : D} (hd : flatD d = true) (he : flatD e = true) : L2.eqV (vD e) (vD d) = PyData.eqv e d := by
  cases d <;> cases e <;> first | (cases hd; done) | (cases he; done) | (simp [vD, L2.eqV, PyData.eqv]; done) | rfl
theorem flatV_vD {d : D} (h : flatD d = true) : L2.flatV (vD d) = true := by
  cases d <;> first | rfl | cases h
theorem RpA.flats {K : Frag} {G : Hp} : ∀ {vs : List V} {ds : List D}, RpA K G vs ds → ds.all flatD = true → vs = ds.map vD
  | _, _, .nil, _ => rfl
  | _, _, .cons (d := d) h r, e => by
    simp only [List.all_cons, Bool.and_eq_true] at e
    rw [RpA.flats r e.2, List.map_cons]
    congr 1
    cases d <;> first | (cases h; rfl) | (cases e.1; done)
theorem inV_flat {d : D} (hd : flatD d = true) : ∀ {ds : List D}, ds.all flatD = true → L2.inV (vD d) (ds.map vD) = memD d ds
  | [], _ => rfl
  | e :: ds, h => by
    simp only [List.all_cons, Bool.and_eq_true] at h
    have ih := inV_flat hd h.2
    unfold L2.inV memD at ih ⊢
    rw [List.map_cons, List.any_cons, List.any_cons, ih, eqV_flat hd h.1]
theorem all_flatV {ds : List D} (h : ds.all flatD = true) : (ds.map vD).all L2.flatV = true := by
  rw [List.all_map]
  exact List.all_eq_true.mpr fun d hd => flatV_vD (List.all_eq_true.mp h d hd)
theorem cmp_op (hc : Ctx X) (op : CmpOp) : Op2 X W B (fun r => L2.OpR X (compareOp op) r) (fun k1 k2 d1 d2 => (cmpD op k1 k2 d1 d2).map fun c => (.ro, .bool c)) := by
  intro k1 k2 d1 d2 k d h0
  obtain ⟨c, h, e⟩ := Option.map_eq_some_iff.mp h0
  clear h0
  cases e
  unfold cmpD at h
  split at h
  · cases h
  · rename_i hk
    have hk' : ordK k1 = true ∧ ordK k2 = true := by simpa using hk
    obtain ⟨hk1, hk2⟩ := hk'
    have n1 : k1 ≠ .sc := by rintro rfl; cases hk1
    have n2 : k2 ≠ .sc := by rintro rfl; cases hk2
    cases op with
    | Eq =>
      simp only at h
      split at h
      · rename_i hs
        simp only [Bool.and_eq_true] at hs
        cases h
        refine ⟨_, L2.op_eqD hc.un, fun Γ σ G H v1 v2 Q o w1 w2 q => ?_⟩
        exact ⟨d1, d2, (w1.rp o n1).dp (noDict_shaped hs.1), (w2.rp o n2).dp (noDict_shaped hs.2), hs.1, hs.2, q.ro o (.bl _)⟩
      · cases h
    | NotEq =>
      simp only at h
      split at h
      · rename_i hs
        simp only [Bool.and_eq_true] at hs
        cases h
        refine ⟨_, L2.op_neD hc.un, fun Γ σ G H v1 v2 Q o w1 w2 q => ?_⟩
        exact ⟨d1, d2, (w1.rp o n1).dp (noDict_shaped hs.1), (w2.rp o n2).dp (noDict_shaped hs.2), hs.1, hs.2, q.ro o (.bl _)⟩
      · cases h
    | Lt =>
      simp only at h
      split at h
      · rename_i i j
        cases h
        refine ⟨_, L2.op_lt, fun Γ σ G H v1 v2 Q o w1 w2 q => ?_⟩
        rw [w1.int o, w2.int o]
        exact ⟨i, j, rfl, rfl, q.ro o (.bl _)⟩
      · cases h
    | LtE =>
      simp only at h
      split at h
      · rename_i i j
        cases h
        refine ⟨_, L2.op_le, fun Γ σ G H v1 v2 Q o w1 w2 q => ?_⟩
        rw [w1.int o, w2.int o]
        exact ⟨i, j, rfl, rfl, q.ro o (.bl _)⟩
      · cases h
    | Gt =>
      simp only at h
      split at h
      · rename_i i j
        cases h
        refine ⟨_, L2.op_gt, fun Γ σ G H v1 v2 Q o w1 w2 q => ?_⟩
        rw [w1.int o, w2.int o]
        exact ⟨i, j, rfl, rfl, q.ro o (.bl _)⟩
      · cases h
    | GtE =>
      simp only at h
      split at h
      · rename_i i j
        cases h
        refine ⟨_, L2.op_ge, fun Γ σ G H v1 v2 Q o w1 w2 q => ?_⟩
        rw [w1.int o, w2.int o]
        exact ⟨i, j, rfl, rfl, q.ro o (.bl _)⟩
      · cases h
    | Is =>
      simp only at h
      split at h
      · refine ⟨_, L2.op_isN, fun Γ σ G H v1 v2 Q o w1 w2 q => ⟨w2.non o, ?_⟩⟩
        have e : decide (v1 = L2.V.non) = c := by
          cases hf : flatD d1 with
          | true =>
            rw [w1.flatV o hf]
            cases d1 <;> first | (cases h; rfl) | (cases hf; done)
          | false =>
            obtain ⟨a, rfl⟩ := w1.ref o hf
            cases d1 <;> first | (cases h; rfl) | (cases hf; done)
        rw [e]
        exact q.ro o (.bl _)
      · cases h
    | IsNot =>
      simp only at h
      split at h
      · refine ⟨_, L2.op_notN, fun Γ σ G H v1 v2 Q o w1 w2 q => ⟨w2.non o, ?_⟩⟩
        have e : (!decide (v1 = L2.V.non)) = c := by
          cases hf : flatD d1 with
          | true =>
            rw [w1.flatV o hf]
            cases d1 <;> first | (cases h; rfl) | (cases hf; done)
          | false =>
            obtain ⟨a, rfl⟩ := w1.ref o hf
            cases d1 <;> first | (cases h; rfl) | (cases hf; done)
        rw [e]
        exact q.ro o (.bl _)
      · cases h
    | In =>
      simp only at h
      split at h
      · rename_i x y
        cases h
        refine ⟨_, L2.op_in_str, fun Γ σ G H v1 v2 Q o w1 w2 q => ?_⟩
        rw [w1.str o, w2.str o]
        exact ⟨x, y, rfl, rfl, q.ro o (.bl _)⟩
      · rename_i ds _
        split at h
        · rename_i hf
          simp only [Bool.and_eq_true] at hf
          cases h
          refine ⟨_, L2.op_in_seq, fun Γ σ G H v1 v2 Q o w1 w2 q => ?_⟩
          obtain ⟨a, vs, rfl, ha, ra⟩ := w2.items o
          rw [w1.flatV o hf.1]
          rw [ra.flats hf.2] at ha
          refine ⟨a, _, rfl, .inl ha, flatV_vD hf.1, all_flatV hf.2, ?_⟩
          rw [inV_flat hf.1 hf.2]
          exact q.ro o (.bl _)
        · cases h
      · rename_i ds _
        split at h
        · rename_i hf
          simp only [Bool.and_eq_true] at hf
          cases h
          refine ⟨_, L2.op_in_seq, fun Γ σ G H v1 v2 Q o w1 w2 q => ?_⟩
          obtain ⟨a, vs, rfl, ha, ra⟩ := w2.itemsT o
          rw [w1.flatV o hf.1]
          rw [ra.flats hf.2] at ha
          refine ⟨a, _, rfl, .inr ha, flatV_vD hf.1, all_flatV hf.2, ?_⟩
          rw [inV_flat hf.1 hf.2]
          exact q.ro o (.bl _)
        · cases h
      · cases h
    | NotIn =>
      simp only at h
      split at h
      · rename_i x y
        cases h
        refine ⟨_, L2.op_notIn_str, fun Γ σ G H v1 v2 Q o w1 w2 q => ?_⟩
        rw [w1.str o, w2.str o]
        exact ⟨x, y, rfl, rfl, q.ro o (.bl _)⟩
      · rename_i ds _
        split at h
        · rename_i hf
          simp only [Bool.and_eq_true] at hf
          cases h
          refine ⟨_, L2.op_notIn_seq, fun Γ σ G H v1 v2 Q o w1 w2 q => ?_⟩
          obtain ⟨a, vs, rfl, ha, ra⟩ := w2.items o
          rw [w1.flatV o hf.1]
          rw [ra.flats hf.2] at ha
          refine ⟨a, _, rfl, .inl ha, flatV_vD hf.1, all_flatV hf.2, ?_⟩
          rw [inV_flat hf.1 hf.2]
          exact q.ro o (.bl _)
        · cases h
      · rename_i ds _
        split at h
        · rename_i hf
          simp only [Bool.and_eq_true] at hf
          cases h
          refine ⟨_, L2.op_notIn_seq, fun Γ σ G H v1 v2 Q o w1 w2 q => ?_⟩
          obtain ⟨a, vs, rfl, ha, ra⟩ := w2.itemsT o
          rw [w1.flatV o hf.1]
          rw [ra.flats hf.2] at ha
          refine ⟨a, _, rfl, .inr ha, flatV_vD hf.1, all_flatV hf.2, ?_⟩
          rw [inV_flat hf.1 hf.2]
          exact q.ro o (.bl _)
        · cases h
      · cases h
theorem se_cmp (hc : Ctx X) {op : CmpOp} {a b : Expr} {ca cb : E} {pos : Pos} (ha : SE T X W B a ca) (hb : SE T X W B b cb) (hm : behindInMarks op b = false := by first | exact L2.nomark _ | with_unfolding_all rfl) : SE T X W B (.Compare a [op] [b] pos) (.cmp op ca cb) := by
  intro Γ r h
  unfold evalE at h
  refine two (P := fun r => L2.OpR X (compareOp op) r) cmp_false (fun ho ha hb => L2.pe_cmpR ho ha hb hm) ha hb (cmp_op hc op) Γ r ?_
  rw [← h]
  simp only [Option.map_map]
  rfl
end
end Fd
end
section
set_option maxRecDepth 100000
set_option maxHeartbeats 2000000
namespace Fd
open PySem
section
variable {T : Nat → Option Fc} {X : L2.Cx} {W : L2.WX} {B : Bs} {G G' H H' : Hp} {σ : L2.St} {Γ Γ' : Ev} {k : Kd} {d : D} {v : V} {r : R} {Q : L2.VK} {δ : Dl}
theorem Vl.step0 (o : Ok B X.K G' H' σ Γ) (s : Stp σ Γ G H Γ G' H') (h : Vl B X.K σ Γ G H k d v) : Vl B X.K σ Γ G' H' k d v := Vl.step (δ := []) o s (by cases k <;> rfl) h
/-- a comparison's rule at the data -/
theorem cmp_at (hc : Ctx X) {op : CmpOp} {k1 k2 : Kd} {d1 d2 : D} {c : Bool} (h : cmpD op k1 k2 d1 d2 = some c) : ∃ r : L2.R2, L2.OpR X (compareOp op) r ∧ ∀ (Γ : Ev) (σ : L2.St) (G H : Hp) (v1 v2 : V) (Q : L2.VK), Ok B X.K G H σ Γ → Vl B X.K σ Γ G H k1 d1 v1 → Vl B X.K σ Γ G H k2 d2 v2 →
    Pst X W B σ Γ G H (.ok .ro (.bool c) []) Q → r v1 v2 H Q := cmp_op (W := W) (B := B) hc op k1 k2 d1 d2 .ro (.bool c) (by show Option.map _ (cmpD op k1 k2 d1 d2) = _; rw [h]; rfl)
theorem se_cmp2 (hc : Ctx X) {o1 o2 : CmpOp} {a b c : Expr} {ca cb cc : E} {pos : Pos} (ha : SE T X W B a ca) (hb : SE T X W B b cb) (hcc : SE T X W B c cc) (hm : lastMarks [o1, o2] [b, c] = false := by with_unfolding_all rfl) :
    SE T X W B (.Compare a [o1, o2] [b, c] pos) (.cmp2 o1 o2 ca cb cc) := by
  intro Γ r h
  unfold evalE at h
  rcases thn_some h with ⟨c, δ, h1, rfl⟩ | ⟨k1, d1, δ1, r', h1, h2, rfl⟩
  · exact pe_imp (L2.pe_chain cmp_false cmp_false (ha Γ _ h1) pe_no pe_no hm) fun σ H Q q => q
  · rcases thn_some h2 with ⟨c, δ, h3, rfl⟩ | ⟨k2, d2, δ2, r'', h3, h4, rfl⟩
    · refine pe_imp (L2.pe_chain cmp_false cmp_false (ha Γ _ h1) (hb _ _ h3) pe_no hm) fun σ H Q ⟨G, o, q⟩ => ?_
      exact ⟨G, o, fun v G1 H1 o1 s1 _ _ => ⟨G1, o1, Pst.pre q s1⟩⟩
    · split at h4
      · rename_i hk
        split at h4
        · rename_i e1
          obtain ⟨rr, hr, hq⟩ := cmp_at (W := W) (B := B) hc e1
          rcases thn_some h4 with ⟨c, δ, h5, rfl⟩ | ⟨k3, d3, δ3, r3, h5, h6, rfl⟩
          · refine pe_imp (L2.pe_chain hr cmp_false (ha Γ _ h1) (hb _ _ h3) (hcc _ _ h5) hm) fun σ H Q ⟨G, o, q⟩ => ?_
            refine ⟨G, o, fun v1 G1 H1 o1 s1 w1 _ => ⟨G1, o1, fun v2 G2 H2 o2 s2 w2 _ => ?_⟩⟩
            refine hq _ σ G2 H2 v1 v2 _ o2 (w1.step o2 s2 hk) w2 fun z G3 H3 o3 s3 w3 _ => ⟨true, w3.bl_inv, L2.iteT ?_⟩
            exact ⟨G3, o3, Pst.stp ((Pst.pre q s1).pre s2) s3⟩
          · split at h6
            · rename_i hk2
              obtain ⟨cc', e2, rfl⟩ := Option.map_eq_some_iff.mp h6
              obtain ⟨rr2, hr2, hq2⟩ := cmp_at (W := W) (B := B) hc e2
              refine pe_imp (L2.pe_chain hr hr2 (ha Γ _ h1) (hb _ _ h3) (hcc _ _ h5) hm) fun σ H Q ⟨G, o, q⟩ => ?_
              refine ⟨G, o, fun v1 G1 H1 o1 s1 w1 _ => ⟨G1, o1, fun v2 G2 H2 o2 s2 w2 _ => ?_⟩⟩
              refine hq _ σ G2 H2 v1 v2 _ o2 (w1.step o2 s2 hk) w2 fun z G3 H3 o3 s3 w3 _ => ⟨true, w3.bl_inv, L2.iteT ?_⟩
              refine ⟨G3, o3, fun v4 G4 H4 o4 s4 w4 _ => ?_⟩
              refine hq2 _ σ G4 H4 v2 v4 Q o4 ((w2.step0 o3 s3).step o4 s4 hk2) w4 ?_
              exact (Pst.stp ((Pst.pre q s1).pre s2) s3).pre s4
            · cases h6
        · rename_i e1
          cases h4
          obtain ⟨rr, hr, hq⟩ := cmp_at (W := W) (B := B) hc e1
          refine pe_imp (L2.pe_chain hr cmp_false (ha Γ _ h1) (hb _ _ h3) pe_no hm) fun σ H Q ⟨G, o, q⟩ => ?_
          refine ⟨G, o, fun v1 G1 H1 o1 s1 w1 _ => ⟨G1, o1, fun v2 G2 H2 o2 s2 w2 _ => ?_⟩⟩
          refine hq _ σ G2 H2 v1 v2 _ o2 (w1.step o2 s2 hk) w2 fun z G3 H3 o3 s3 w3 _ => ⟨false, w3.bl_inv, L2.iteF ?_⟩
          exact (Pst.stp ((Pst.pre q s1).pre s2) s3).ro o3 (.bl _)
        · cases h4
      · cases h4
/-! ### and, or (of truth values), signs -/
theorem se_one {op : BoolOp} {a : Expr} {ca : E} {pos : Pos} (ha : SE T X W B a ca) : SE T X W B (.BoolOp op [a] pos) ca := fun Γ r h => L2.pe_one (ha Γ r h)
theorem se_and {a b : Expr} {rest : List Expr} {ca cb : E} {pos : Pos} (ha : SE T X W B a ca) (hb : SE T X W B (.BoolOp .And (b :: rest) pos) cb) : SE T X W B (.BoolOp .And (a :: b :: rest) pos) (.and_ ca cb) := by
  intro Γ r h
  unfold evalE at h
  rcases thn_some h with ⟨c, δ, h1, rfl⟩ | ⟨k1, d1, δ1, r', h1, h2, rfl⟩
  · exact pe_imp (L2.pe_and (ha Γ _ h1) pe_no) fun σ H Q q => q
  · split at h2
    · refine pe_imp (L2.pe_and (ha Γ _ h1) (hb _ _ h2)) fun σ H Q ⟨G, o, q⟩ => ?_
      refine ⟨G, o, fun v G1 H1 o1 s1 w1 _ => ⟨true, w1.bl o1, L2.iteT ⟨G1, o1, Pst.pre q s1⟩⟩⟩
    · cases h2
      refine pe_imp (L2.pe_and (ha Γ _ h1) pe_no) fun σ H Q ⟨G, o, q⟩ => ?_
      exact ⟨G, o, fun v G1 H1 o1 s1 w1 _ => ⟨false, w1.bl o1, L2.iteF ((Pst.pre q s1).ro o1 (.bl _))⟩⟩
    · cases h2
theorem se_or {a b : Expr} {rest : List Expr} {ca cb : E} {pos : Pos} (ha : SE T X W B a ca) (hb : SE T X W B (.BoolOp .Or (b :: rest) pos) cb) : SE T X W B (.BoolOp .Or (a :: b :: rest) pos) (.or_ ca cb) := by
  intro Γ r h
  unfold evalE at h
  rcases thn_some h with ⟨c, δ, h1, rfl⟩ | ⟨k1, d1, δ1, r', h1, h2, rfl⟩
  · exact pe_imp (L2.pe_or (ha Γ _ h1) pe_no) fun σ H Q q => q
  · split at h2
    · refine pe_imp (L2.pe_or (ha Γ _ h1) (hb _ _ h2)) fun σ H Q ⟨G, o, q⟩ => ?_
      refine ⟨G, o, fun v G1 H1 o1 s1 w1 _ => ⟨false, w1.bl o1, L2.iteF ⟨G1, o1, Pst.pre q s1⟩⟩⟩
    · cases h2
      refine pe_imp (L2.pe_or (ha Γ _ h1) pe_no) fun σ H Q ⟨G, o, q⟩ => ?_
      exact ⟨G, o, fun v G1 H1 o1 s1 w1 _ => ⟨true, w1.bl o1, L2.iteT ((Pst.pre q s1).ro o1 (.bl _))⟩⟩
    · cases h2
theorem se_neg {a : Expr} {ca : E} {pos : Pos} (ha : SE T X W B a ca) : SE T X W B (.UnaryOp .USub a pos) (.un .USub ca) := by
  intro Γ r h
  unfold evalE at h
  rcases thn_some h with ⟨c, δ, h1, rfl⟩ | ⟨k1, d1, δ1, r', h1, h2, rfl⟩
  · exact pe_imp (L2.pe_un L2.un_neg (ha Γ _ h1)) fun σ H Q q => q
  · obtain ⟨d', e, rfl⟩ := Option.map_eq_some_iff.mp h2
    unfold unD at e
    split at e
    · cases e
      refine pe_imp (L2.pe_un L2.un_neg (ha Γ _ h1)) fun σ H Q ⟨G, o, q⟩ => ?_
      exact ⟨G, o, fun v G1 H1 o1 s1 w1 _ => ⟨_, w1.int o1, (Pst.pre q s1).ro o1 (.int _)⟩⟩
    · cases e
/-! ### tests -/
def PsT (X : L2.Cx) (W : L2.WX) (B : Bs) (σ : L2.St) (Γ : Ev) (G H : Hp) (r : R) (Q : Bool → Hp → Prop) : Prop :=
  match r with
  | .ok _ d δ => ∀ b G' H', truD d = some b → Ok B X.K G' H' σ (apd Γ δ) → Stp σ Γ G H (apd Γ δ) G' H' → Q b H'
  | .ex c δ => ∀ cls dd G' H', Ok B X.K G' H' σ (apd Γ δ) → Stp σ Γ G H (apd Γ δ) G' H' → ExIs X G' H' c cls dd → W cls dd σ H'
def tT (X : L2.Cx) (W : L2.WX) (B : Bs) (Γ : Ev) (r : R) : L2.TT := fun σ H Q => ∃ G, Ok B X.K G H σ Γ ∧ PsT X W B σ Γ G H r Q
def hasT : R → Bool
  | .ok _ d _ => (truD d).isSome
  | .ex _ _ => true
def ST (T : Nat → Option Fc) (X : L2.Cx) (W : L2.WX) (B : Bs) (e : Expr) (c : E) : Prop := ∀ Γ r, evalE T c Γ = some r → hasT r = true → L2.PT X e (tT X W B Γ r)
theorem pt_imp {X : L2.Cx} {e : Expr} {t t' : L2.TT} (h : L2.PT X e t) (i : ∀ σ H Q, t' σ H Q → t σ H Q) : L2.PT X e t' := ⟨fun pins s σ H Q I q => h.run pins s σ H Q I (i σ H Q q)⟩
theorem pw_imp {X : L2.Cx} {e : Expr} {t t' : L2.TT} (h : L2.PW X e t) (i : ∀ σ H Q, t' σ H Q → t σ H Q) : L2.PW X e t' := ⟨fun wh pins s σ H Q I q => h.run wh pins s σ H Q I (i σ H Q q)⟩
theorem pt_no {X : L2.Cx} {e : Expr} : L2.PT X e fun _ _ _ => False := ⟨fun _ _ _ _ _ _ h => h.elim⟩
theorem pw_no {X : L2.Cx} {e : Expr} : L2.PW X e fun _ _ _ => False := ⟨fun _ _ _ _ _ _ _ h => h.elim⟩
theorem PsT.pre {Q : Bool → Hp → Prop} (h : PsT X W B σ Γ G H (r.pre δ) Q) (s : Stp σ Γ G H (apd Γ δ) G' H') : PsT X W B σ (apd Γ δ) G' H' r Q := by
  cases r with
  | ok k d δ' =>
    intro b G2 H2 e o2 s2
    have h : PsT X W B σ Γ G H (.ok k d (δ ++ δ')) Q := h
    have e' := apd_append Γ δ δ'
    unfold PsT at h
    simp only [e'] at h
    exact h b G2 H2 e o2 (s.trans s2)
  | ex c δ' =>
    intro cls dd G2 H2 o2 s2 x2
    have h : PsT X W B σ Γ G H (.ex c (δ ++ δ')) Q := h
    have e := apd_append Γ δ δ'
    unfold PsT at h
    simp only [e] at h
    exact h cls dd G2 H2 o2 (s.trans s2) x2
theorem PsT.stp {Q : Bool → Hp → Prop} (h : PsT X W B σ Γ G H r Q) (s : Stp σ Γ G H Γ G' H') : PsT X W B σ Γ G' H' r Q := by
  cases r with
  | ok k d δ' => exact fun b G2 H2 e o2 s2 => h b G2 H2 e o2 (s.trans s2)
  | ex c δ' => exact fun cls dd G2 H2 o2 s2 x2 => h cls dd G2 H2 o2 (s.trans s2) x2
theorem PsT.fin {Q : Bool → Hp → Prop} {b : Bool} (h : PsT X W B σ Γ G H (.ok k d []) Q) (o : Ok B X.K G H σ Γ) (e : truD d = some b) : Q b H := h b G H e o Stp.refl
theorem hasT_pre : hasT (r.pre δ) = hasT r := by cases r <;> rfl
/-- truth by the value -/
theorem tru_of {b : Bool} (o : Ok B X.K G H σ Γ) (h : Vl B X.K σ Γ G H k d v) (e : truD d = some b) : L2.TruV X.K v H b := by
  cases d with
  | none => rw [h.non o]; cases e; rfl
  | bool c => rw [h.bl o]; cases e; rfl
  | int i => rw [h.int o]; cases e; rfl
  | str x =>
    rw [h.str o]
    have e : (if x.length ≤ sizeLine then some ((x.length : Int) != 0) else none) = some b := e
    split at e
    · rename_i hz; cases e; exact ⟨hz, rfl⟩
    · cases e
  | list ds =>
    obtain ⟨a, vs, rfl, ha, ra⟩ := h.items o
    cases e
    refine .inl ⟨vs, ha, ?_⟩
    have := ra.length
    cases vs <;> cases ds <;> simp_all
  | tuple ds =>
    obtain ⟨a, vs, rfl, ha, ra⟩ := h.itemsT o
    cases e
    refine .inr (.inl ⟨vs, ha, ?_⟩)
    have := ra.length
    cases vs <;> cases ds <;> simp_all
  | dict ds => cases e
theorem st_of {e : Expr} {c : E} (h : SE T X W B e c) (he : ∀ whole, isTrue e X.env whole = (do let v ← whole; standAt e.pos; holding [v] (truthy v)) := by intro _; rfl) : ST T X W B e c := by
  intro Γ r hr ht
  refine pt_imp (L2.pt_truth (h Γ r hr) he) fun σ H Q ⟨G, o, q⟩ => ?_
  refine ⟨G, o, ?_⟩
  cases r with
  | ok k d δ =>
    intro v G1 H1 o1 s1 w1 _
    obtain ⟨b, hb⟩ := Option.isSome_iff_exists.mp (show (truD d).isSome = true from ht)
    exact ⟨b, tru_of o1 w1 hb, q b G1 H1 hb o1 s1⟩
  | ex c δ => exact q
theorem st_cmp (hc : Ctx X) {op : CmpOp} {a b : Expr} {ca cb : E} {pos : Pos} (ha : SE T X W B a ca) (hb : SE T X W B b cb) (hm : behindInMarks op b = false := by first | exact L2.nomark _ | with_unfolding_all rfl) : ST T X W B (.Compare a [op] [b] pos) (.cmp op ca cb) := by
  intro Γ r h _
  unfold evalE at h
  rcases thn_some h with ⟨c, δ, h1, rfl⟩ | ⟨k1, d1, δ1, r', h1, h2, rfl⟩
  · exact pt_imp (L2.pt_cmpR cmp_false (ha Γ _ h1) pe_no hm) fun σ H Q q => q
  · rcases thn_some h2 with ⟨c, δ, h3, rfl⟩ | ⟨k2, d2, δ2, r'', h3, h4, rfl⟩
    · refine pt_imp (L2.pt_cmpR cmp_false (ha Γ _ h1) (hb _ _ h3) hm) fun σ H Q ⟨G, o, q⟩ => ?_
      exact ⟨G, o, fun v G1 H1 o1 s1 _ _ => ⟨G1, o1, PsT.pre q s1⟩⟩
    · split at h4
      · rename_i hk
        obtain ⟨c, h5, rfl⟩ := Option.map_eq_some_iff.mp h4
        obtain ⟨rr, hr, hq⟩ := cmp_at (W := W) (B := B) hc h5
        refine pt_imp (L2.pt_cmpR hr (ha Γ _ h1) (hb _ _ h3) hm) fun σ H Q ⟨G, o, q⟩ => ?_
        refine ⟨G, o, fun v1 G1 H1 o1 s1 w1 _ => ⟨G1, o1, fun v2 G2 H2 o2 s2 w2 _ => ?_⟩⟩
        refine hq _ σ G2 H2 v1 v2 _ o2 (w1.step o2 s2 hk) w2 fun z G3 H3 o3 s3 w3 _ => ⟨c, w3.bl_inv, ?_⟩
        exact (PsT.stp ((PsT.pre q s1).pre s2) s3) c G3 H3 rfl o3 Stp.refl
      · cases h4
theorem st_cmp2 (hc : Ctx X) {o1 o2 : CmpOp} {a b c : Expr} {ca cb cc : E} {pos : Pos} (ha : SE T X W B a ca) (hb : SE T X W B b cb) (hcc : SE T X W B c cc) (hm : lastMarks [o1, o2] [b, c] = false := by with_unfolding_all rfl) :
    ST T X W B (.Compare a [o1, o2] [b, c] pos) (.cmp2 o1 o2 ca cb cc) := by
  intro Γ r h _
  unfold evalE at h
  rcases thn_some h with ⟨c, δ, h1, rfl⟩ | ⟨k1, d1, δ1, r', h1, h2, rfl⟩
  · exact pt_imp (L2.pt_chain cmp_false cmp_false (ha Γ _ h1) pe_no pe_no hm) fun σ H Q q => q
  · rcases thn_some h2 with ⟨c, δ, h3, rfl⟩ | ⟨k2, d2, δ2, r'', h3, h4, rfl⟩
    · refine pt_imp (L2.pt_chain cmp_false cmp_false (ha Γ _ h1) (hb _ _ h3) pe_no hm) fun σ H Q ⟨G, o, q⟩ => ?_
      exact ⟨G, o, fun v G1 H1 o1 s1 _ _ => ⟨G1, o1, PsT.pre q s1⟩⟩
    · split at h4
      · rename_i hk
        split at h4
        · rename_i e1
          obtain ⟨rr, hr, hq⟩ := cmp_at (W := W) (B := B) hc e1
          rcases thn_some h4 with ⟨c, δ, h5, rfl⟩ | ⟨k3, d3, δ3, r3, h5, h6, rfl⟩
          · refine pt_imp (L2.pt_chain hr cmp_false (ha Γ _ h1) (hb _ _ h3) (hcc _ _ h5) hm) fun σ H Q ⟨G, o, q⟩ => ?_
            refine ⟨G, o, fun v1 G1 H1 o1 s1 w1 _ => ⟨G1, o1, fun v2 G2 H2 o2 s2 w2 _ => ?_⟩⟩
            refine hq _ σ G2 H2 v1 v2 _ o2 (w1.step o2 s2 hk) w2 fun z G3 H3 o3 s3 w3 _ => ⟨true, w3.bl_inv, L2.iteT ?_⟩
            exact ⟨G3, o3, PsT.stp ((PsT.pre q s1).pre s2) s3⟩
          · split at h6
            · rename_i hk2
              obtain ⟨cc', e2, rfl⟩ := Option.map_eq_some_iff.mp h6
              obtain ⟨rr2, hr2, hq2⟩ := cmp_at (W := W) (B := B) hc e2
              refine pt_imp (L2.pt_chain hr hr2 (ha Γ _ h1) (hb _ _ h3) (hcc _ _ h5) hm) fun σ H Q ⟨G, o, q⟩ => ?_
              refine ⟨G, o, fun v1 G1 H1 o1 s1 w1 _ => ⟨G1, o1, fun v2 G2 H2 o2 s2 w2 _ => ?_⟩⟩
              refine hq _ σ G2 H2 v1 v2 _ o2 (w1.step o2 s2 hk) w2 fun z G3 H3 o3 s3 w3 _ => ⟨true, w3.bl_inv, L2.iteT ?_⟩
              refine ⟨G3, o3, fun v4 G4 H4 o4 s4 w4 _ => ?_⟩
              refine hq2 _ σ G4 H4 v2 v4 _ o4 ((w2.step0 o3 s3).step o4 s4 hk2) w4 fun z5 G5 H5 o5 s5 w5 _ => ⟨cc', w5.bl_inv, ?_⟩
              exact (PsT.stp ((PsT.stp ((PsT.pre q s1).pre s2) s3).pre s4) s5) cc' G5 H5 rfl o5 Stp.refl
            · cases h6
        · rename_i e1
          cases h4
          obtain ⟨rr, hr, hq⟩ := cmp_at (W := W) (B := B) hc e1
          refine pt_imp (L2.pt_chain hr cmp_false (ha Γ _ h1) (hb _ _ h3) pe_no hm) fun σ H Q ⟨G, o, q⟩ => ?_
          refine ⟨G, o, fun v1 G1 H1 o1 s1 w1 _ => ⟨G1, o1, fun v2 G2 H2 o2 s2 w2 _ => ?_⟩⟩
          refine hq _ σ G2 H2 v1 v2 _ o2 (w1.step o2 s2 hk) w2 fun z G3 H3 o3 s3 w3 _ => ⟨false, w3.bl_inv, false, rfl, ?_⟩
          exact (PsT.stp ((PsT.pre q s1).pre s2) s3) false G3 H3 rfl o3 Stp.refl
        · cases h4
      · cases h4
end
end Fd
end
section
set_option maxRecDepth 100000
set_option maxHeartbeats 2000000
namespace Fd
open PySem
section
variable {T : Nat → Option Fc} {X : L2.Cx} {W : L2.WX} {B : Bs} {G G' H H' : Hp} {σ : L2.St} {Γ Γ' : Ev} {k : Kd} {d : D} {v : V} {r : R} {Q : L2.VK} {δ : Dl}
def SW (T : Nat → Option Fc) (X : L2.Cx) (W : L2.WX) (B : Bs) (e : Expr) (c : E) : Prop := ∀ Γ r, evalE T c Γ = some r → hasT r = true → L2.PW X e (tT X W B Γ r)
theorem st_w {e : Expr} {c : E} (h : SW T X W B e c) : ST T X W B e c := fun Γ r a b => (h Γ r a b).pt
theorem sw_and1 {a : Expr} {ca : E} {pos : Pos} (ha : ST T X W B a ca) : SW T X W B (.BoolOp .And [a] pos) ca := fun Γ r h1 h2 => L2.pw_and1 (ha Γ r h1 h2)
theorem sw_or1 {a : Expr} {ca : E} {pos : Pos} (ha : ST T X W B a ca) : SW T X W B (.BoolOp .Or [a] pos) ca := fun Γ r h1 h2 => L2.pw_or1 (ha Γ r h1 h2)
/-- the truth of the second test stands for it -/
theorem tT_map {r : R} {c0 : Kd × D × Dl} (h : r = .ok c0.1 c0.2.1 c0.2.2) : True := trivial
theorem sw_and {a b : Expr} {rest : List Expr} {ca cb : E} {pos : Pos} (ha : ST T X W B a ca) (hb : SW T X W B (.BoolOp .And (b :: rest) pos) cb) : SW T X W B (.BoolOp .And (a :: b :: rest) pos) (.tand ca cb) := by
  intro Γ r h _
  unfold evalE at h
  rcases thn_some h with ⟨c, δ, h1, rfl⟩ | ⟨k1, d1, δ1, r', h1, h2, rfl⟩
  · exact pw_imp (L2.pw_and (ha Γ _ h1 rfl) pw_no) fun σ H Q q => q
  · split at h2
    · rename_i e1
      have t1 : hasT (.ok k1 d1 δ1) = true := by show (truD d1).isSome = true; rw [e1]; rfl
      rcases thn_some h2 with ⟨c, δ, h3, rfl⟩ | ⟨k2, d2, δ2, r'', h3, h4, rfl⟩
      · refine pw_imp (L2.pw_and (ha Γ _ h1 t1) (hb _ _ h3 rfl)) fun σ H Q ⟨G, o, q⟩ => ?_
        refine ⟨G, o, fun b G1 H1 e o1 s1 => ?_⟩
        rw [e1] at e
        cases e
        exact L2.iteT ⟨G1, o1, PsT.pre q s1⟩
      · obtain ⟨c, e2, rfl⟩ := Option.map_eq_some_iff.mp h4
        have t2 : hasT (.ok k2 d2 δ2) = true := by show (truD d2).isSome = true; rw [e2]; rfl
        refine pw_imp (L2.pw_and (ha Γ _ h1 t1) (hb _ _ h3 t2)) fun σ H Q ⟨G, o, q⟩ => ?_
        refine ⟨G, o, fun b G1 H1 e o1 s1 => ?_⟩
        rw [e1] at e
        cases e
        refine L2.iteT ⟨G1, o1, fun b G2 H2 e o2 s2 => ?_⟩
        rw [e2] at e
        cases e
        exact ((PsT.pre q s1).pre s2).fin o2 rfl
    · rename_i e1
      cases h2
      have t1 : hasT (.ok k1 d1 δ1) = true := by show (truD d1).isSome = true; rw [e1]; rfl
      refine pw_imp (L2.pw_and (ha Γ _ h1 t1) pw_no) fun σ H Q ⟨G, o, q⟩ => ?_
      refine ⟨G, o, fun b G1 H1 e o1 s1 => ?_⟩
      rw [e1] at e
      cases e
      exact L2.iteF ((PsT.pre q s1).fin o1 rfl)
    · cases h2
theorem sw_or {a b : Expr} {rest : List Expr} {ca cb : E} {pos : Pos} (ha : ST T X W B a ca) (hb : SW T X W B (.BoolOp .Or (b :: rest) pos) cb) : SW T X W B (.BoolOp .Or (a :: b :: rest) pos) (.tor ca cb) := by
  intro Γ r h _
  unfold evalE at h
  rcases thn_some h with ⟨c, δ, h1, rfl⟩ | ⟨k1, d1, δ1, r', h1, h2, rfl⟩
  · exact pw_imp (L2.pw_or (ha Γ _ h1 rfl) pw_no) fun σ H Q q => q
  · split at h2
    · rename_i e1
      have t1 : hasT (.ok k1 d1 δ1) = true := by show (truD d1).isSome = true; rw [e1]; rfl
      rcases thn_some h2 with ⟨c, δ, h3, rfl⟩ | ⟨k2, d2, δ2, r'', h3, h4, rfl⟩
      · refine pw_imp (L2.pw_or (ha Γ _ h1 t1) (hb _ _ h3 rfl)) fun σ H Q ⟨G, o, q⟩ => ?_
        refine ⟨G, o, fun b G1 H1 e o1 s1 => ?_⟩
        rw [e1] at e
        cases e
        exact L2.iteF ⟨G1, o1, PsT.pre q s1⟩
      · obtain ⟨c, e2, rfl⟩ := Option.map_eq_some_iff.mp h4
        have t2 : hasT (.ok k2 d2 δ2) = true := by show (truD d2).isSome = true; rw [e2]; rfl
        refine pw_imp (L2.pw_or (ha Γ _ h1 t1) (hb _ _ h3 t2)) fun σ H Q ⟨G, o, q⟩ => ?_
        refine ⟨G, o, fun b G1 H1 e o1 s1 => ?_⟩
        rw [e1] at e
        cases e
        refine L2.iteF ⟨G1, o1, fun b G2 H2 e o2 s2 => ?_⟩
        rw [e2] at e
        cases e
        exact ((PsT.pre q s1).pre s2).fin o2 rfl
    · rename_i e1
      cases h2
      have t1 : hasT (.ok k1 d1 δ1) = true := by show (truD d1).isSome = true; rw [e1]; rfl
      refine pw_imp (L2.pw_or (ha Γ _ h1 t1) pw_no) fun σ H Q ⟨G, o, q⟩ => ?_
      refine ⟨G, o, fun b G1 H1 e o1 s1 => ?_⟩
      rw [e1] at e
      cases e
      exact L2.iteT ((PsT.pre q s1).fin o1 rfl)
    · cases h2
theorem st_not {a : Expr} {ca : E} {pos : Pos} (ha : ST T X W B a ca) : ST T X W B (.UnaryOp .Not a pos) (.not_ ca) := by
  intro Γ r h _
  unfold evalE at h
  rcases thn_some h with ⟨c, δ, h1, rfl⟩ | ⟨k1, d1, δ1, r', h1, h2, rfl⟩
  · exact pt_imp (L2.pt_not (ha Γ _ h1 rfl)) fun σ H Q q => q
  · obtain ⟨c, e1, rfl⟩ := Option.map_eq_some_iff.mp h2
    have t1 : hasT (.ok k1 d1 δ1) = true := by show (truD d1).isSome = true; rw [e1]; rfl
    refine pt_imp (L2.pt_not (ha Γ _ h1 t1)) fun σ H Q ⟨G, o, q⟩ => ?_
    refine ⟨G, o, fun b G1 H1 e o1 s1 => ?_⟩
    rw [e1] at e
    cases e
    exact (PsT.pre q s1).fin o1 rfl
theorem se_not {a : Expr} {ca : E} {pos : Pos} (ha : SE T X W B a ca) : SE T X W B (.UnaryOp .Not a pos) (.not_ ca) := by
  intro Γ r h
  unfold evalE at h
  rcases thn_some h with ⟨c, δ, h1, rfl⟩ | ⟨k1, d1, δ1, r', h1, h2, rfl⟩
  · exact pe_imp (L2.pe_notT (ha Γ _ h1)) fun σ H Q q => q
  · obtain ⟨c, e1, rfl⟩ := Option.map_eq_some_iff.mp h2
    refine pe_imp (L2.pe_notT (ha Γ _ h1)) fun σ H Q ⟨G, o, q⟩ => ?_
    exact ⟨G, o, fun v G1 H1 o1 s1 w1 _ => ⟨c, tru_of o1 w1 e1, (Pst.pre q s1).ro o1 (.bl _)⟩⟩
theorem se_ite {c a b : Expr} {cc ca cb : E} {pos : Pos} (hcc : ST T X W B c cc) (ha : SE T X W B a ca) (hb : SE T X W B b cb) : SE T X W B (.IfExp c a b pos) (.ite cc ca cb) := by
  intro Γ r h
  unfold evalE at h
  rcases thn_some h with ⟨c, δ, h1, rfl⟩ | ⟨k1, d1, δ1, r', h1, h2, rfl⟩
  · exact pe_imp (L2.pe_ifExp (hcc Γ _ h1 rfl) pe_no pe_no) fun σ H Q q => q
  · split at h2
    · rename_i e1
      have t1 : hasT (.ok k1 d1 δ1) = true := by show (truD d1).isSome = true; rw [e1]; rfl
      refine pe_imp (L2.pe_ifExp (hcc Γ _ h1 t1) (ha _ _ h2) pe_no) fun σ H Q ⟨G, o, q⟩ => ?_
      refine ⟨G, o, fun b G1 H1 e o1 s1 => ?_⟩
      rw [e1] at e
      cases e
      exact L2.iteT ⟨G1, o1, Pst.pre q s1⟩
    · rename_i e1
      have t1 : hasT (.ok k1 d1 δ1) = true := by show (truD d1).isSome = true; rw [e1]; rfl
      refine pe_imp (L2.pe_ifExp (hcc Γ _ h1 t1) pe_no (hb _ _ h2)) fun σ H Q ⟨G, o, q⟩ => ?_
      refine ⟨G, o, fun b G1 H1 e o1 s1 => ?_⟩
      rw [e1] at e
      cases e
      exact L2.iteF ⟨G1, o1, Pst.pre q s1⟩
    · cases h2
/-! ### items, slices -/
theorem atI_some {α : Type} {xs : List α} {i : Int} {v : α} (h : L2.atI xs i = some v) : ∃ j, L2.ixN xs.length i = some j ∧ xs[j]? = some v := by
  unfold L2.atI at h
  obtain ⟨j, h1, h2⟩ := Option.bind_eq_some_iff.mp h
  exact ⟨j, h1, h2⟩
theorem RpA.at {K : Frag} {G : Hp} {vs : List V} {ds : List D} {i : Int} {d : D} (h : RpA K G vs ds) (e : L2.atI ds i = some d) : ∃ v, L2.atI vs i = some v ∧ Rp K G v d := by
  obtain ⟨j, h1, h2⟩ := atI_some e
  obtain ⟨v, h3, h4⟩ := h.get h2
  refine ⟨v, ?_, h4⟩
  unfold L2.atI
  rw [h.length, h1]
  exact h3
theorem ix_op : Op2 X W B (fun r => L2.IxR X r) (fun _ _ a b => (idxD a b).map fun d => (.ro, d)) := by
  intro k1 k2 d1 d2 k d h
  cases d1 with
  | list ds =>
    cases d2 with
    | int i =>
      obtain ⟨d', h1, h2⟩ := Option.map_eq_some_iff.mp h
      cases h2
      refine ⟨_, L2.ix_list, fun Γ σ G H v1 v2 Q o w1 w2 q => ?_⟩
      obtain ⟨a, vs, rfl, ha, ra⟩ := w1.items o
      rw [w2.int o]
      obtain ⟨v, hv, rv⟩ := ra.at (show L2.atI ds i = some d from h1)
      exact ⟨a, vs, i, v, rfl, rfl, ha, hv, q.ro o rv⟩
    | _ => cases h
  | tuple ds =>
    cases d2 with
    | int i =>
      obtain ⟨d', h1, h2⟩ := Option.map_eq_some_iff.mp h
      cases h2
      refine ⟨_, L2.ix_tup, fun Γ σ G H v1 v2 Q o w1 w2 q => ?_⟩
      obtain ⟨a, vs, rfl, ha, ra⟩ := w1.itemsT o
      rw [w2.int o]
      obtain ⟨v, hv, rv⟩ := ra.at (show L2.atI ds i = some d from h1)
      exact ⟨a, vs, i, v, rfl, rfl, ha, hv, q.ro o rv⟩
    | _ => cases h
  | str x =>
    cases d2 with
    | int i =>
      obtain ⟨d', h1, h2⟩ := Option.map_eq_some_iff.mp h
      cases h2
      have h1 : (if x.length ≤ sizeLine then (L2.atI x.cps.toList i).map fun c => PyData.str ⟨#[c]⟩ else none) = some d := h1
      split at h1
      · rename_i hz
        obtain ⟨c, h3, rfl⟩ := Option.map_eq_some_iff.mp h1
        refine ⟨_, L2.ix_str, fun Γ σ G H v1 v2 Q o w1 w2 q => ?_⟩
        rw [w1.str o, w2.int o]
        exact ⟨x, i, c, rfl, rfl, hz, h3, q.ro o (.str _)⟩
      · cases h1
    | _ => cases h
  | _ => cases h
theorem ix_false : L2.IxR X fun _ _ _ _ => False := by
  unfold L2.IxR
  intros
  contradiction
theorem se_idx {a b : Expr} {ca cb : E} {pos : Pos} (ha : SE T X W B a ca) (hb : SE T X W B b cb) (hs : L2.PlainIx b := by exact fun _ _ => rfl) : SE T X W B (.Subscript a b pos) (.idx ca cb) := by
  intro Γ r h
  unfold evalE at h
  refine two (P := fun r => L2.IxR X r) ix_false (fun ho ha hb => L2.pe_ix ho ha hb hs) ha hb ix_op Γ r ?_
  rw [← h]
  simp only [Option.map_map]
  rfl
/-! ### displays -/
def newL (H : Hp) (k : Kd) (v : V) : Prop := k = .fr → ∀ p, v = .ref p → H p = none
/-- values at hand, in order -/
inductive Vls (B : Bs) (K : Frag) (σ : L2.St) (Γ : Ev) (G H : Hp) : List (Kd × D) → List V → Prop
  | nil : Vls B K σ Γ G H [] []
  | cons {k : Kd} {d : D} {v : V} {r : List (Kd × D)} {vs : List V} : Vl B K σ Γ G H k d v → Vls B K σ Γ G H r vs → Vls B K σ Γ G H ((k, d) :: r) (v :: vs)
def PsA (X : L2.Cx) (W : L2.WX) (B : Bs) (σ : L2.St) (Γ : Ev) (G H : Hp) (r : RA) (Q : List V → Hp → Prop) : Prop :=
  match r with
  | .ok kds δ => ∀ vs G' H', Ok B X.K G' H' σ (apd Γ δ) → Stp σ Γ G H (apd Γ δ) G' H' → Vls B X.K σ (apd Γ δ) G' H' kds vs → Q vs H'
  | .ex c δ => ∀ cls dd G' H', Ok B X.K G' H' σ (apd Γ δ) → Stp σ Γ G H (apd Γ δ) G' H' → ExIs X G' H' c cls dd → W cls dd σ H'
def tA (X : L2.Cx) (W : L2.WX) (B : Bs) (Γ : Ev) (r : RA) : L2.TA := fun σ H Q => ∃ G, Ok B X.K G H σ Γ ∧ PsA X W B σ Γ G H r Q
def SA (T : Nat → Option Fc) (X : L2.Cx) (W : L2.WX) (B : Bs) (es : List Expr) (c : Es) : Prop := ∀ m Γ r, evalA T m c Γ = some r → L2.PA X es (tA X W B Γ r)
theorem pa_imp {X : L2.Cx} {e : List Expr} {t t' : L2.TA} (h : L2.PA X e t) (i : ∀ σ H Q, t' σ H Q → t σ H Q) : L2.PA X e t' := ⟨fun pos pins s σ H Q I q => h.run pos pins s σ H Q I (i σ H Q q)⟩
theorem pa_no {X : L2.Cx} {e : List Expr} : L2.PA X e fun _ _ _ => False := ⟨fun _ _ _ _ _ _ _ h => h.elim⟩
theorem Stp.pass {m : Md} {k' : Kd} {δ' : Dl} {Γ0 : Ev} {G0 H0 : Hp} (o : Ok B X.K G H σ Γ) (s : Stp σ Γ0 G0 H0 Γ G H) (hn : k = .fr → ∀ p, v = .ref p → H0 p = none) (hp : Fd.pass Γ m k d = some (k', δ')) (h : Vl B X.K σ Γ G H k d v) :
    ∃ G', Ok B X.K G' H σ (apd Γ δ') ∧ Stp σ Γ0 G0 H0 (apd Γ δ') G' H ∧ Vl B X.K σ (apd Γ δ') G' H k' d v := by
  unfold Fd.pass at hp
  cases m with
  | bo => cases hp; exact ⟨G, o, s, h⟩
  | fz =>
    simp only at hp
    split at hp
    · rename_i hz
      cases hp
      obtain ⟨G', o', s', r', _⟩ := h.freeze o s hn hz
      exact ⟨G', o', s', r'⟩
    · cases hp
  | io =>
    simp only at hp
    split at hp
    · cases hp; exact ⟨G, o, s, h⟩
    · cases hp
  | sc =>
    simp only at hp
    split at hp
    · cases hp; exact ⟨G, o, s, h⟩
    · cases hp
theorem sa_nil : SA T X W B [] .nil := by
  intro m Γ r h
  unfold evalA at h
  cases h
  exact pa_imp L2.pa_nil fun σ H Q ⟨G, o, q⟩ => q [] G H o Stp.refl .nil
theorem sa_cons {e : Expr} {es : List Expr} {c : E} {cs : Es} (he : SE T X W B e c) (hr : SA T X W B es cs) (hs : starEach (e :: es) X.env = (false, eval e X.env) :: starEach es X.env := by rfl) : SA T X W B (e :: es) (.cons c cs) := by
  intro m Γ r h
  unfold evalA at h
  split at h
  · rename_i k d δ h1
    split at h
    · rename_i k' δ' h2
      have e3 : apd Γ (δ ++ δ') = apd (apd Γ δ) δ' := apd_append _ _ _
      rw [e3] at h
      split at h
      · rename_i kds δ2 h3
        split at h
        · rename_i hk
          cases h
          refine pa_imp (L2.pa_cons (he Γ _ h1) (hr _ _ _ h3) hs) fun σ H Q ⟨G, o, q⟩ => ?_
          refine ⟨G, o, fun v G1 H1 o1 s1 w1 n1 => ?_⟩
          obtain ⟨G2, o2, s2, w2⟩ := Stp.pass o1 s1 n1 h2 w1
          refine ⟨G2, o2, fun vs G3 H3 o3 s3 w3 => ?_⟩
          have e4 : apd Γ (δ ++ δ' ++ δ2) = apd (apd (apd Γ δ) δ') δ2 := by rw [apd_append, apd_append]
          unfold PsA at q
          simp only [e4] at q
          exact q (v :: vs) G3 H3 o3 (s2.trans s3) (.cons (w2.step o3 s3 hk) w3)
        · cases h
      · rename_i c' δ2 h3
        cases h
        refine pa_imp (L2.pa_cons (he Γ _ h1) (hr _ _ _ h3) hs) fun σ H Q ⟨G, o, q⟩ => ?_
        refine ⟨G, o, fun v G1 H1 o1 s1 w1 n1 => ?_⟩
        obtain ⟨G2, o2, s2, w2⟩ := Stp.pass o1 s1 n1 h2 w1
        refine ⟨G2, o2, fun cls dd G3 H3 o3 s3 x3 => ?_⟩
        have e4 : apd Γ (δ ++ δ' ++ δ2) = apd (apd (apd Γ δ) δ') δ2 := by rw [apd_append, apd_append]
        unfold PsA at q
        simp only [e4] at q
        exact q cls dd G3 H3 o3 (s2.trans s3) x3
      · cases h
    · cases h
  · rename_i c' δ h1
    cases h
    exact pa_imp (L2.pa_cons (he Γ _ h1) pa_no hs) fun σ H Q q => q
  · cases h
/-- frozen values -/
theorem Vls.ros {kds : List (Kd × D)} {vs : List V} (h : Vls B X.K σ Γ G H kds vs) (hk : ∀ p ∈ kds, p.1 = Kd.ro) : RpA X.K G vs (kds.map (·.2)) := by
  induction h with
  | nil => exact .nil
  | cons h r ih =>
    rename_i k d v r' vs'
    have e : k = .ro := hk (k, d) List.mem_cons_self
    subst e
    exact .cons h (ih fun p hp => hk p (List.mem_cons_of_mem _ hp))
theorem evalA_fz {c : Es} : ∀ {Γ : Ev} {kds : List (Kd × D)} {δ : Dl}, evalA T (fun _ => .fz) c Γ = some (.ok kds δ) → ∀ p ∈ kds, p.1 = Kd.ro := by
  intro Γ kds δ h
  match c with
  | .nil => unfold evalA at h; cases h; intro p hp; cases hp
  | .cons e es =>
    unfold evalA at h
    split at h
    · split at h
      · rename_i k d δ h1 k' δ' h2
        split at h
        · rename_i kds' δ2 h3
          split at h
          · cases h
            have ih := evalA_fz (c := es) h3
            intro p hp
            rcases List.mem_cons.mp hp with rfl | hp
            · unfold Fd.pass at h2
              simp only at h2
              split at h2
              · cases h2; rfl
              · cases h2
            · exact ih p hp
          · cases h
        · cases h
        · cases h
      · cases h
    · cases h
    · cases h
theorem se_lst {es : List Expr} {cs : Es} {pos : Pos} (h : SA T X W B es cs) : SE T X W B (.List es pos) (.lst cs) := by
  intro Γ r hr
  unfold evalE at hr
  split at hr
  · rename_i kds δ h1
    split at hr
    · rename_i hz
      cases hr
      refine pe_imp (L2.pe_lst (h _ _ _ h1)) fun σ H Q ⟨G, o, q⟩ => ?_
      refine ⟨G, o, fun vs G1 H1 o1 s1 w1 => ?_⟩
      have rr := w1.ros (evalA_fz h1)
      refine ⟨by rw [rr.length, List.length_map]; exact hz, fun p hp => ?_⟩
      refine q (.ref p) G1 _ (o1.new hp) (s1.trans (Stp.new o1 hp)) (Vl.newL o1 hp rr) fun _ p' e => ?_
      cases e
      cases z : H p with
      | none => rfl
      | some u =>
        obtain ⟨u', h'⟩ := s1.dom p u z
        rw [hp] at h'
        cases h'
    · cases hr
  · rename_i c δ h1
    cases hr
    exact pe_imp (L2.pe_lst (h _ _ _ h1)) fun σ H Q q => q
  · cases hr
theorem se_tup {es : List Expr} {cs : Es} {n : Nat} {pos : Pos} (h : SA T X W B es cs) : SE T X W B (.Tuple es n pos) (.tup cs) := by
  intro Γ r hr
  unfold evalE at hr
  split at hr
  · rename_i kds δ h1
    split at hr
    · rename_i hz
      cases hr
      refine pe_imp (L2.pe_tup (h _ _ _ h1)) fun σ H Q ⟨G, o, q⟩ => ?_
      refine ⟨G, o, fun vs G1 H1 o1 s1 w1 => ?_⟩
      have rr := w1.ros (evalA_fz h1)
      refine ⟨by rw [rr.length, List.length_map]; exact hz, fun p hp => ?_⟩
      exact q (.ref p) _ _ (o1.newF hp) (s1.trans (Stp.newF o1 hp)) (.tup (L2.SqT.of L2.upd_same) (rr.ex (Ex.put (o1.sub.back hp)))) fun z => nomatch z
    · cases hr
  · rename_i c δ h1
    cases hr
    exact pe_imp (L2.pe_tup (h _ _ _ h1)) fun σ H Q q => q
  · cases hr
end
end Fd
end
section
set_option maxRecDepth 100000
set_option maxHeartbeats 2000000
namespace Fd
open PySem
section
variable {T : Nat → Option Fc} {X : L2.Cx} {W : L2.WX} {B : Bs} {G G' H H' : Hp} {σ : L2.St} {Γ Γ' : Ev} {k : Kd} {d : D} {v : V} {r : R} {Q : L2.VK} {δ : Dl}
abbrev RCl := List V → Hp → L2.VK → Prop
def OpN (X : L2.Cx) (W : L2.WX) (B : Bs) (P : RCl → Prop) (b : Bi) : Prop :=
  ∀ kds k d, biD b kds = some (k, d) → ∃ r : RCl, P r ∧ ∀ (Γ : Ev) (σ : L2.St) (G H : Hp) (vs : List V) (Q : L2.VK), Ok B X.K G H σ Γ → Vls B X.K σ Γ G H kds vs → Pst X W B σ Γ G H (.ok k d []) Q → r vs H Q
theorem se_biN {e : Expr} {b : Bi} {es : List Expr} {cs : Es} {P : RCl → Prop} (pf : P fun _ _ _ => False) (mk : ∀ {r : RCl} {ta : L2.TA}, P r → L2.PA X es ta → L2.PE X e (L2.tCB r ta)) (ha : SA T X W B es cs) (hF : OpN X W B P b) :
    SE T X W B e (.bi b cs) := by
  intro Γ r h
  unfold evalE at h
  split at h
  · rename_i kds δ h1
    obtain ⟨⟨k, d⟩, h2, rfl⟩ := Option.map_eq_some_iff.mp h
    obtain ⟨rr, hp, hr⟩ := hF kds k d h2
    refine pe_imp (mk hp (ha _ _ _ h1)) fun σ H Q ⟨G, o, q⟩ => ?_
    refine ⟨G, o, fun vs G1 H1 o1 s1 w1 => ?_⟩
    refine hr _ σ G1 H1 vs Q o1 w1 ?_
    exact Pst.pre (δ := δ) (r := .ok k d []) (by show Pst X W B σ Γ G H (.ok k d (δ ++ [])) Q; rw [List.append_nil]; exact q) s1
  · rename_i c δ h1
    cases h
    exact pe_imp (mk pf (ha _ _ _ h1)) fun σ H Q q => q
  · cases h
theorem vls1 {k : Kd} {d : D} {vs : List V} (h : Vls B X.K σ Γ G H [(k, d)] vs) : ∃ v, vs = [v] ∧ Vl B X.K σ Γ G H k d v := by
  cases h with
  | cons h r => cases r; exact ⟨_, rfl, h⟩
theorem vls2 {k l : Kd} {d e : D} {vs : List V} (h : Vls B X.K σ Γ G H [(k, d), (l, e)] vs) : ∃ v w, vs = [v, w] ∧ Vl B X.K σ Γ G H k d v ∧ Vl B X.K σ Γ G H l e w := by
  cases h with
  | cons h r =>
    cases r with
    | cons h2 r => cases r; exact ⟨_, _, rfl, h, h2⟩
theorem callr_false {f : Value} : L2.CallR X f fun _ _ _ => False := by
  unfold L2.CallR
  intros
  contradiction
theorem op_len : OpN X W B (fun r => L2.CallR X (.builtin "len") r) .len := by
  intro kds k d h
  unfold biD at h
  split at h <;> first | (rename_i hb; cases hb) | skip
  all_goals first | (cases h; done) | skip
  · rename_i kk x
    split at h
    · rename_i hz
      cases h
      refine ⟨_, L2.call_len_str, fun Γ σ G H vs Q o w q => ?_⟩
      obtain ⟨v, rfl, w1⟩ := vls1 w
      rw [w1.str o]
      exact ⟨x, rfl, hz, q.ro o (.int _)⟩
    · cases h
  · rename_i kk ds
    cases h
    refine ⟨_, L2.call_len_seq, fun Γ σ G H vs Q o w q => ?_⟩
    obtain ⟨v, rfl, w1⟩ := vls1 w
    obtain ⟨a, ws, rfl, ha, ra⟩ := w1.items o
    refine ⟨a, ws, rfl, .inl ha, ?_⟩
    rw [ra.length]
    exact q.ro o (.int _)
  · rename_i kk ds
    cases h
    refine ⟨_, L2.call_len_seq, fun Γ σ G H vs Q o w q => ?_⟩
    obtain ⟨v, rfl, w1⟩ := vls1 w
    obtain ⟨a, ws, rfl, ha, ra⟩ := w1.itemsT o
    refine ⟨a, ws, rfl, .inr ha, ?_⟩
    rw [ra.length]
    exact q.ro o (.int _)
theorem op_int : OpN X W B (fun r => L2.CallR X (.type "int") r) .int := by
  intro kds k d h
  unfold biD at h
  split at h <;> first | (rename_i hb; cases hb) | skip
  all_goals first | (cases h; done) | skip
  · rename_i kk i
    cases h
    refine ⟨_, L2.call_int1, fun Γ σ G H vs Q o w q => ?_⟩
    obtain ⟨v, rfl, w1⟩ := vls1 w
    rw [w1.int o]
    exact .inl ⟨i, rfl, q.ro o (.int _)⟩
  · rename_i kk c
    cases h
    refine ⟨_, L2.call_int1, fun Γ σ G H vs Q o w q => ?_⟩
    obtain ⟨v, rfl, w1⟩ := vls1 w
    rw [w1.bl o]
    exact .inr ⟨c, rfl, q.ro o (.int _)⟩
theorem op_abs : OpN X W B (fun r => L2.CallR X (.builtin "abs") r) .abs := by
  intro kds k d h
  unfold biD at h
  split at h <;> first | (rename_i hb; cases hb) | skip
  all_goals first | (cases h; done) | skip
  · rename_i kk i
    cases h
    refine ⟨_, L2.call_abs, fun Γ σ G H vs Q o w q => ?_⟩
    obtain ⟨v, rfl, w1⟩ := vls1 w
    rw [w1.int o]
    exact ⟨i, rfl, q.ro o (.int _)⟩
theorem op_min (hc : X.calm = true) : OpN X W B (fun r => L2.CallR X (.builtin "min") r) .min := by
  intro kds k d h
  unfold biD at h
  split at h <;> first | (rename_i hb; cases hb) | skip
  all_goals first | (cases h; done) | skip
  · rename_i kk i ll j
    cases h
    refine ⟨_, L2.call_min2 hc, fun Γ σ G H vs Q o w q => ?_⟩
    obtain ⟨v, u, rfl, w1, w2⟩ := vls2 w
    rw [w1.int o, w2.int o]
    exact ⟨i, j, rfl, q.ro o (.int _)⟩
theorem op_max (hc : X.calm = true) : OpN X W B (fun r => L2.CallR X (.builtin "max") r) .max := by
  intro kds k d h
  unfold biD at h
  split at h <;> first | (rename_i hb; cases hb) | skip
  all_goals first | (cases h; done) | skip
  · rename_i kk i ll j
    cases h
    refine ⟨_, L2.call_max2 hc, fun Γ σ G H vs Q o w q => ?_⟩
    obtain ⟨v, u, rfl, w1, w2⟩ := vls2 w
    rw [w1.int o, w2.int o]
    exact ⟨i, j, rfl, q.ro o (.int _)⟩
theorem bools_of : ∀ {ds : List D} {bs : List Bool}, boolsD ds = some bs → ds = bs.map PyData.bool
  | [], _, h => by cases h; rfl
  | d :: ds, bs, h => by
    cases d with
    | bool b =>
      obtain ⟨r, h1, h2⟩ := Option.map_eq_some_iff.mp (show (boolsD ds).map (b :: ·) = some bs from h)
      subst h2
      rw [bools_of h1]; rfl
    | _ => cases h
theorem ints_of : ∀ {ds : List D} {bs : List Int}, intsD ds = some bs → ds = bs.map PyData.int
  | [], _, h => by cases h; rfl
  | d :: ds, bs, h => by
    cases d with
    | int b =>
      obtain ⟨r, h1, h2⟩ := Option.map_eq_some_iff.mp (show (intsD ds).map (b :: ·) = some bs from h)
      subst h2
      rw [ints_of h1]; rfl
    | _ => cases h
theorem strs_of : ∀ {ds : List D} {bs : List Str}, strsD ds = some bs → ds = bs.map PyData.str
  | [], _, h => by cases h; rfl
  | d :: ds, bs, h => by
    cases d with
    | str b =>
      obtain ⟨r, h1, h2⟩ := Option.map_eq_some_iff.mp (show (strsD ds).map (b :: ·) = some bs from h)
      subst h2
      rw [strs_of h1]; rfl
    | _ => cases h
theorem op_all (hc : X.calm = true) : OpN X W B (fun r => L2.CallR X (.builtin "all") r) .all := by
  intro kds k d h
  unfold biD at h
  split at h <;> first | (rename_i hb; cases hb) | skip
  all_goals first | (cases h; done) | skip
  · rename_i kk ds
    obtain ⟨bs, h1, h2⟩ := Option.map_eq_some_iff.mp h
    cases h2
    refine ⟨_, L2.cr_all hc, fun Γ σ G H vs Q o w q => ?_⟩
    obtain ⟨v, rfl, w1⟩ := vls1 w
    obtain ⟨a, ws, rfl, ha, ra⟩ := w1.items o
    rw [bools_of h1] at ra
    rw [ra.bls_inv] at ha
    exact ⟨a, bs, rfl, ha, q.ro o (.bl _)⟩
theorem op_any (hc : X.calm = true) : OpN X W B (fun r => L2.CallR X (.builtin "any") r) .any := by
  intro kds k d h
  unfold biD at h
  split at h <;> first | (rename_i hb; cases hb) | skip
  all_goals first | (cases h; done) | skip
  · rename_i kk ds
    obtain ⟨bs, h1, h2⟩ := Option.map_eq_some_iff.mp h
    cases h2
    refine ⟨_, L2.cr_any hc, fun Γ σ G H vs Q o w q => ?_⟩
    obtain ⟨v, rfl, w1⟩ := vls1 w
    obtain ⟨a, ws, rfl, ha, ra⟩ := w1.items o
    rw [bools_of h1] at ra
    rw [ra.bls_inv] at ha
    exact ⟨a, bs, rfl, ha, q.ro o (.bl _)⟩
theorem op_sum (hc : X.calm = true) : OpN X W B (fun r => L2.CallR X (.builtin "sum") r) .sum := by
  intro kds k d h
  unfold biD at h
  split at h <;> first | (rename_i hb; cases hb) | skip
  all_goals first | (cases h; done) | skip
  · rename_i kk ds
    obtain ⟨bs, h1, h2⟩ := Option.map_eq_some_iff.mp h
    cases h2
    refine ⟨_, L2.cr_sum hc, fun Γ σ G H vs Q o w q => ?_⟩
    obtain ⟨v, rfl, w1⟩ := vls1 w
    obtain ⟨a, ws, rfl, ha, ra⟩ := w1.items o
    rw [ints_of h1] at ra
    rw [ra.ints_inv] at ha
    exact ⟨a, bs, rfl, ha, q.ro o (.int _)⟩
theorem op_tuple : OpN X W B (fun r => L2.CallR X (.type "tuple") r) .tuple := by
  intro kds k d h
  unfold biD at h
  split at h <;> first | (rename_i hb; cases hb) | skip
  all_goals first | (cases h; done) | skip
  · rename_i kk ds
    split at h
    · rename_i hk
      cases h
      refine ⟨_, L2.call_tuple_of, fun Γ σ G H vs Q o w q => ?_⟩
      obtain ⟨v, rfl, w1⟩ := vls1 w
      obtain ⟨a, ws, rfl, ha, ra⟩ := w1.items o
      exact ⟨a, ws, rfl, .inl ⟨ha, q.newT o ra⟩⟩
    · cases h
  · rename_i kk ds
    cases h
    refine ⟨_, L2.call_tuple_of, fun Γ σ G H vs Q o w q => ?_⟩
    obtain ⟨v, rfl, w1⟩ := vls1 w
    have w2 := w1.flat o rfl
    obtain ⟨a, ws, rfl, ha, ra⟩ := w1.itemsT o
    exact ⟨a, ws, rfl, .inr ⟨ha, q.ro o w2⟩⟩
theorem op_list : OpN X W B (fun r => L2.CallR X (.type "list") r) .list := by
  intro kds k d h
  unfold biD at h
  split at h <;> first | (rename_i hb; cases hb) | skip
  all_goals first | (cases h; done) | skip
  · rename_i kk ds
    cases h
    refine ⟨_, L2.call_list_of, fun Γ σ G H vs Q o w q => ?_⟩
    obtain ⟨v, rfl, w1⟩ := vls1 w
    obtain ⟨a, ws, rfl, ha, ra⟩ := w1.items o
    exact ⟨a, ws, rfl, .inl ha, q.newL o ra⟩
  · rename_i kk ds
    cases h
    refine ⟨_, L2.call_list_of, fun Γ σ G H vs Q o w q => ?_⟩
    obtain ⟨v, rfl, w1⟩ := vls1 w
    obtain ⟨a, ws, rfl, ha, ra⟩ := w1.itemsT o
    exact ⟨a, ws, rfl, .inr ha, q.newL o ra⟩
/-! ### repr -/
theorem call_repr (hc : Ctx X) : L2.CallR X (.builtin "repr") (fun xs H Q => ∃ x d, xs = [x] ∧ L2.Dp X.K H x d ∧ d.showable = true ∧ d.hasDict = false ∧ d.depth ≤ 63 ∧ d.shown.length ≤ sizeLine ∧ Q (.str d.shown) H) := by
  intro pins s σ H xs us Q I rr h
  obtain ⟨x, d, rfl, hd, hs, hn, hz, hl, q⟩ := h
  obtain ⟨u, rfl, ru⟩ := L2.Vals.one rr
  obtain ⟨as, rd⟩ := L2.Dp.reads I d x u hd ru
  have fin : ∀ (h' : Heap) (t : Tok) (tk : Nat), (∀ b o, s.heap.get? b = some o → h'.get? b = some o) → L2.EP X pins σ Q (.str d.shown t) { s with heap := h', toks := tk } := fun h' t tk hk =>
    ⟨.str d.shown, H, I.kept (t' := tk) hk, ⟨_, rfl⟩, q⟩
  have fin0 : L2.EP X pins σ Q (.str d.shown s.toks) { s with toks := s.toks + 1 } := ⟨.str d.shown, H, I.tok _, ⟨_, rfl⟩, q⟩
  cases rd with
  | none => exact PySem.P.repr_of_none fin0
  | bool b => exact PySem.P.repr_of_bool fin0
  | int i t => exact PySem.P.repr_of_int (by simpa [PyData.showable] using hs) fin0
  | str x t => exact PySem.P.repr_of_str fin0 hl
  | list h1 h2 h3 h4 => exact repr_of_reads' (.list h1 h2 h3 h4) hs (PyData.noDict_hsm hn) hc.gd (by have := hc.un; omega) (fun _ _ q => q) (fun h' u tk hk => fin h' u tk hk) hl
  | tuple h1 h2 h3 h4 => exact repr_of_reads' (.tuple h1 h2 h3 h4) hs (PyData.noDict_hsm hn) hc.gd (by have := hc.un; omega) (fun _ _ q => q) (fun h' u tk hk => fin h' u tk hk) hl
  | dict h1 h2 h3 h4 h5 => simp [PyData.hasDict] at hn
theorem op_repr (hc : Ctx X) : OpN X W B (fun r => L2.CallR X (.builtin "repr") r) .repr := by
  intro kds k d h
  unfold biD at h
  split at h <;> first | (rename_i hb; cases hb) | skip
  all_goals first | (cases h; done) | skip
  · rename_i kk e
    split at h
    · rename_i hh
      cases h
      simp only [Bool.and_eq_true, decide_eq_true_eq, Bool.not_eq_true'] at hh
      obtain ⟨⟨⟨⟨h1, h2⟩, h3⟩, h4⟩, h5⟩ := hh
      refine ⟨_, call_repr hc, fun Γ σ G H vs Q o w q => ?_⟩
      obtain ⟨v, rfl, w1⟩ := vls1 w
      exact ⟨v, e, rfl, (w1.rp o (by rintro rfl; cases h1)).dp h3, h2, h3, h4, h5, q.ro o (.str _)⟩
    · cases h
/-! ### f(e): built-in functions by their names -/
section
variable {e : Expr} {es : List Expr} {cs : Es} {p pos : Pos}
theorem se_fn {id : String} {x : Str} {b : Bi} (hg : L2.Gl X x) (hm : X.mg x = none) (hv : bootBuiltins x = some (.builtin id)) (hF : OpN X W B (fun r => L2.CallR X (.builtin id) r) b) (ha : SA T X W B (e :: es) cs)
    (hn : x ≠ "__name__" := by decide) (hdb : (x == ("__debug__" : Str)) = false := by decide) (he : starEach (e :: es) X.env = (false, eval e X.env) :: starEach es X.env := by rfl) (hpl : (backTo pos (starEach es X.env)).any (·.1) = false := by rfl) :
    SE T X W B (.Call (.Name x p) (e :: es) [] pos) (.bi b cs) := se_biN (P := fun r => L2.CallR X (.builtin id) r) callr_false (fun hr hta => L2.pe_callB hr hg hm hv hta hn hdb he hpl) ha hF
theorem se_ty {id : String} {x : Str} {b : Bi} (hg : L2.Gl X x) (hm : X.mg x = none) (hv : bootBuiltins x = some (.type id)) (hF : OpN X W B (fun r => L2.CallR X (.type id) r) b) (ha : SA T X W B (e :: es) cs)
    (hn : x ≠ "__name__" := by decide) (hdb : (x == ("__debug__" : Str)) = false := by decide) (he : starEach (e :: es) X.env = (false, eval e X.env) :: starEach es X.env := by rfl) (hpl : (backTo pos (starEach es X.env)).any (·.1) = false := by rfl) :
    SE T X W B (.Call (.Name x p) (e :: es) [] pos) (.bi b cs) := se_biN (P := fun r => L2.CallR X (.type id) r) callr_false (fun hr hta => L2.pe_callTy hr hg hm hv hta hn hdb he hpl) ha hF
end
end
end Fd
end
section
set_option maxRecDepth 100000
set_option maxHeartbeats 2000000
namespace Fd
open PySem
section
variable {T : Nat → Option Fc} {X : L2.Cx} {W : L2.WX} {B : Bs} {G G' H H' : Hp} {σ : L2.St} {Γ Γ' : Ev} {k : Kd} {d : D} {v : V} {r : R} {Q : L2.VK} {δ : Dl}
/-! ### isinstance against a built-in type -/
def tyN : D → String
  | .none => "NoneType" | .bool _ => "bool" | .int _ => "int" | .str _ => "str" | .list _ => "list" | .tuple _ => "tuple" | .dict _ => "dict"
theorem Vl.ty (o : Ok B X.K G H σ Γ) (h : Vl B X.K σ Γ G H k d v) : L2.TyX X.K H v (.type (tyN d)) := by
  cases d with
  | none => rw [h.non o]; exact .base .non
  | bool b => rw [h.bl o]; exact .base (.bl b)
  | int i => rw [h.int o]; exact .base (.int i)
  | str x => rw [h.str o]; exact .base (.str x)
  | list ds =>
    obtain ⟨a, vs, rfl, ha, _⟩ := h.items o
    rcases ha with (ha | ⟨ob, ha⟩) | ⟨ob, its, n, h1, h2, _⟩
    · exact .base (.lst ha)
    · exact .base (.frz ha)
    · exact .kList h1 h2
  | tuple ds =>
    obtain ⟨a, vs, rfl, ha, _⟩ := h.itemsT o
    rcases ha with (ha | ⟨ob, ha⟩) | ⟨ob, its, n, h1, h2, _⟩
    · exact .base (.tup ha)
    · exact .fTuple ha
    · exact .kTuple h1 h2
  | dict ds =>
    cases k with
    | ro => cases h with | dct h1 h2 => exact .base (.dK (o.sub _ _ h1))
    | fr => obtain ⟨p, rfl, _, ⟨vs, h1, _⟩, _⟩ := h; exact .base (.dK h1)
    | sc => obtain ⟨_, _, _, h, _⟩ := h; cases h
    | al i =>
      obtain ⟨⟨b, h⟩, h2⟩ := h
      obtain ⟨p, e, _, ⟨vs, h1, _⟩, _⟩ := o.own i b _ h
      rw [e] at h2
      cases h2
      exact .base (.dK h1)
def isTy : Bi → Option String
  | .isbool => some "bool" | .isint => some "int" | .isstr => some "str" | .islist => some "list" | .istuple => some "tuple"
  | _ => none
theorem isTy_ok {b : Bi} {ty : String} (h : isTy b = some ty) (k : Kd) (d : D) : ∃ c, biD b [(k, d)] = some (.ro, .bool c) ∧ L2.kitB (tyN d) ty = some c := by
  cases b <;> first | (cases h; done) | skip
  all_goals (cases h; cases d <;> (refine ⟨_, rfl, ?_⟩; simp only [tyN]; decide +kernel))
theorem se_isT {e : Expr} {c : E} {ty : String} {y : Str} {b : Bi} {p p2 pos : Pos} (hb : isTy b = some ty) (hg : L2.Gl X "isinstance") (hm : X.mg "isinstance" = none) (hg2 : L2.Gl X y) (hm2 : X.mg y = none) (hv : bootBuiltins y = some (.type ty)) (ha : SE T X W B e c)
    (hn : y ≠ "__name__" := by decide) (hdb : (y == ("__debug__" : Str)) = false := by decide)
    (he : starEach (e :: [.Name y p2]) X.env = (false, eval e X.env) :: starEach [.Name y p2] X.env := by rfl) (he2 : starEach (.Name y p2 :: []) X.env = (false, eval (.Name y p2) X.env) :: starEach [] X.env := by rfl) (hpl : (backTo pos (starEach [.Name y p2] X.env)).any (·.1) = false := by rfl) :
    SE T X W B (.Call (.Name "isinstance" p) (e :: [.Name y p2]) [] pos) (.bi b (.cons c .nil)) := by
  intro Γ r h
  unfold evalE at h
  unfold evalA at h
  have ht : L2.PE X (.Name y p2) (L2.tC (.ty ty)) := L2.pe_bltn hg2 hm2 hv rfl hn hdb
  have mk : ∀ {ta : L2.TE}, L2.PE X e ta → L2.PE X (.Call (.Name "isinstance" p) (e :: [.Name y p2]) [] pos) (L2.tCB (L2.rIsi X.K) (L2.tCons ta (L2.tCons (L2.tC (.ty ty)) L2.tNil))) := fun hta =>
    L2.pe_callB L2.call_isi hg hm (by decide +kernel) (L2.pa_cons hta (L2.pa_cons ht L2.pa_nil he2) he) (by decide) (by decide) he hpl
  cases h1 : evalE T c Γ with
  | none => rw [h1] at h; cases h
  | some r1 =>
    cases r1 with
    | ok k d δ =>
      rw [h1] at h
      have h : (biD b [(k, d)]).map (fun p => R.ok p.1 p.2 (δ ++ [] ++ [])) = some r := by
        have e4 : keeps ([] : Dl) k = true := by cases k <;> rfl
        simp only [pass, evalA] at h
        rw [if_pos e4] at h
        exact h
      obtain ⟨cc, h2, h3⟩ := isTy_ok hb k d
      rw [h2] at h
      cases h
      refine pe_imp (mk (ha Γ _ h1)) fun σ H Q ⟨G, o, q⟩ => ?_
      refine ⟨G, o, fun v G1 H1 o1 s1 w1 _ => ?_⟩
      refine ⟨v, .ty ty, .type (tyN d), .type ty, cc, rfl, .ty ty, w1.ty o1, L2.kit_ty h3, ?_⟩
      have e5 : δ ++ [] ++ [] = δ := by simp
      unfold Pst at q
      simp only [e5] at q
      exact q _ G1 H1 o1 s1 (Rp.bl _) fun z => nomatch z
    | ex c' δ =>
      rw [h1] at h
      cases h
      exact pe_imp (mk (ha Γ _ h1)) fun σ H Q q => q
/-! ### slices -/
theorem cutV_rp {K : Frag} {G : Hp} {vs : List V} {ds : List D} (h : RpA K G vs ds) (lo hi : Option Int) : RpA K G (L2.cutV vs lo hi) (cutD ds lo hi) := by
  unfold L2.cutV cutD
  rw [h.length]
  exact (h.drop _).take _
def SO (T : Nat → Option Fc) (X : L2.Cx) (W : L2.WX) (B : Bs) (e : Option Expr) (c : E) : Prop :=
  (e = none ∧ c = .nop) ∨ ∃ e', e = some e' ∧ isNop c = false ∧ SE T X W B e' c
theorem so_none : SO T X W B none .nop := .inl ⟨rfl, rfl⟩
theorem so_some {e : Expr} {c : E} (h : SE T X W B e c) (n : isNop c = false := by rfl) : SO T X W B (some e) c := .inr ⟨e, rfl, n, h⟩
def PsO (X : L2.Cx) (W : L2.WX) (B : Bs) (n : Bool) (σ : L2.St) (Γ : Ev) (G H : Hp) (r : R) (Q : Option Int → Hp → Prop) : Prop :=
  match r with
    | .ok k d δ => ∀ G' H', Ok B X.K G' H' σ (apd Γ δ) → Stp σ Γ G H (apd Γ δ) G' H' → ∃ o, partD n d = some o ∧ Q o H'
    | .ex c δ => ∀ cls dd G' H', Ok B X.K G' H' σ (apd Γ δ) → Stp σ Γ G H (apd Γ δ) G' H' → ExIs X G' H' c cls dd → W cls dd σ H'
theorem po_of {e : Option Expr} {c : E} (h : SO T X W B e c) {Γ : Ev} {r : R} (hr : evalE T c Γ = some r) : L2.PO X e (fun σ H Q => ∃ G, Ok B X.K G H σ Γ ∧ PsO X W B (isNop c) σ Γ G H r Q) := by
  rcases h with ⟨rfl, rfl⟩ | ⟨e', rfl, hn, h⟩
  · unfold evalE at hr
    cases hr
    refine ⟨fun pins s σ H Q I ⟨G, o, q⟩ => ?_⟩
    obtain ⟨oo, h1, h2⟩ := q G H o Stp.refl
    cases h1
    exact L2.po_none.run pins s σ H Q I h2
  · refine ⟨fun pins s σ H Q I ⟨G, o, q⟩ => ?_⟩
    refine (L2.po_some (h Γ r hr)).run pins s σ H Q I ⟨G, o, ?_⟩
    cases r with
    | ok k d δ =>
      intro v G1 H1 o1 s1 w1 _
      obtain ⟨oo, h1, h2⟩ := q G1 H1 o1 s1
      rw [hn] at h1
      cases d with
      | int i => cases h1; exact ⟨i, w1.int o1, h2⟩
      | _ => cases h1
    | ex c δ => exact q
theorem po_no {e : Option Expr} : L2.PO X e fun _ _ _ => False := ⟨fun _ _ _ _ _ _ h => h.elim⟩
theorem sl_false : L2.SlR X fun _ _ _ _ _ => False := by
  unfold L2.SlR
  intros
  contradiction
theorem se_slc {a : Expr} {lo hi : Option Expr} {ca cl ch : E} {p2 pos : Pos} (ha : SE T X W B a ca) (hl : SO T X W B lo cl) (hh : SO T X W B hi ch) : SE T X W B (.Subscript a (.Slice lo hi none p2) pos) (.slc ca cl ch) := by
  intro Γ r h
  unfold evalE at h
  rcases thn_some h with ⟨c, δ, h1, rfl⟩ | ⟨k1, d1, δ1, r', h1, h2, rfl⟩
  · exact pe_imp (L2.pe_slice sl_false (ha Γ _ h1) po_no po_no) fun σ H Q q => q
  · rcases thn_some h2 with ⟨c, δ, h3, rfl⟩ | ⟨k2, d2, δ2, r'', h3, h4, rfl⟩
    · refine pe_imp (L2.pe_slice sl_false (ha Γ _ h1) (po_of hl h3) po_no) fun σ H Q ⟨G, o, q⟩ => ?_
      exact ⟨G, o, fun v G1 H1 o1 s1 _ _ => ⟨G1, o1, Pst.pre q s1⟩⟩
    · split at h4
      · rename_i l e2
        rcases thn_some h4 with ⟨c, δ, h5, rfl⟩ | ⟨k3, d3, δ3, r3, h5, h6, rfl⟩
        · refine pe_imp (L2.pe_slice sl_false (ha Γ _ h1) (po_of hl h3) (po_of hh h5)) fun σ H Q ⟨G, o, q⟩ => ?_
          refine ⟨G, o, fun v G1 H1 o1 s1 _ _ => ⟨G1, o1, fun G2 H2 o2 s2 => ⟨l, e2, G2, o2, ?_⟩⟩⟩
          exact (Pst.pre q s1).pre s2
        · split at h6
          · rename_i hk
            simp only [Bool.and_eq_true] at hk
            split at h6
            · rename_i hh' x e3
              split at h6
              · rename_i hz
                cases h6
                refine pe_imp (L2.pe_slice L2.sl_str (ha Γ _ h1) (po_of hl h3) (po_of hh h5)) fun σ H Q ⟨G, o, q⟩ => ?_
                refine ⟨G, o, fun v G1 H1 o1 s1 w1 _ => ⟨G1, o1, fun G2 H2 o2 s2 => ⟨l, e2, G2, o2, fun G3 H3 o3 s3 => ⟨hh', e3, ?_⟩⟩⟩⟩
                rw [w1.str o1]
                exact ⟨x, rfl, hz, (((Pst.pre q s1).pre s2).pre s3).ro o3 (.str _)⟩
              · cases h6
            · rename_i hh' ds e3
              cases h6
              refine pe_imp (L2.pe_slice L2.sl_list (ha Γ _ h1) (po_of hl h3) (po_of hh h5)) fun σ H Q ⟨G, o, q⟩ => ?_
              refine ⟨G, o, fun v G1 H1 o1 s1 w1 _ => ⟨G1, o1, fun G2 H2 o2 s2 => ⟨l, e2, G2, o2, fun G3 H3 o3 s3 => ⟨hh', e3, ?_⟩⟩⟩⟩
              have w3 := (w1.step o2 s2 hk.1).step o3 s3 hk.2
              obtain ⟨a, vs, rfl, hva, ra⟩ := w3.items o3
              exact ⟨a, vs, rfl, hva, (((Pst.pre q s1).pre s2).pre s3).newL o3 (cutV_rp ra l hh')⟩
            · cases h6
          · cases h6
      · cases h4
end
end Fd
end
section
set_option maxRecDepth 100000
set_option maxHeartbeats 2000000
namespace Fd
open PySem
theorem Ok.mut {B : Bs} {K : Frag} {G H : Hp} {σ : L2.St} {Γ : Ev} {i : Nat} {b : Bool} {d d' : D} {p : Addr} {ob : L2.HO} (o : Ok B K G H σ Γ) (hi : Γ[i]? = some (.own b d)) (hp : σ[i]? = some (some (.ref p))) (hr : OwnR K G (L2.upd H p ob) p d') :
    Ok B K G (L2.upd H p ob) σ (Γ.set i (.own b d')) ∧ Stp σ Γ G H (Γ.set i (.own b d')) G (L2.upd H p ob) := by
  have hlt : i < Γ.length := (List.getElem?_eq_some_iff.mp hi).1
  have self : (Γ.set i (.own b d'))[i]? = some (.own b d') := List.getElem?_set_self hlt
  have other : ∀ j, j ≠ i → (Γ.set i (.own b d'))[j]? = Γ[j]? := fun j n => List.getElem?_set_ne (Ne.symm n)
  have back : ∀ j c e, (Γ.set i (.own b d'))[j]? = some (Slot.own c e) → ∃ e', Γ[j]? = some (Slot.own c e') := fun j c e h => by
    by_cases z : j = i
    · subst z; rw [self] at h; cases h; exact ⟨d, hi⟩
    · exact ⟨e, (other j z).symm.trans h⟩
  obtain ⟨p', h1, g, r, hb1, hb0⟩ := o.own i b d hi
  rw [hp] at h1
  cases h1
  have ng : ∀ a u, G a = some u → a ≠ p := fun a u h z => by rw [z, g] at h; cases h
  have kpH : ∀ a fs, (a, fs) ∈ B.kp → (L2.upd H p ob) a = some (.xd fs) := fun a fs hq => by
    have z := o.kp a fs hq
    have ne : a ≠ p := fun y => by
      subst y
      cases d with
      | list ds => obtain ⟨vs, h, _⟩ := r; rw [z] at h; cases h
      | dict ds => obtain ⟨vs, h, _⟩ := r; rw [z] at h; cases h
      | _ => exact r.elim
    rw [L2.upd_ne ne]
    exact z
  refine ⟨⟨fun a u h => ?_, fun j e h => ?_, fun j c e h => ?_, fun j l c1 c2 e1 e2 q h1 h2 h3 h4 => ?_, o.exG, fun a u h n => ?_, o.thin, fun j ns h => ?_, fun j q hq => ?_, by rw [List.length_set]; exact o.len, fun j q hq => ⟨(o.pin j q hq).1, (other j fun y => by have w := (o.pin j q hq).2; rw [y, hi] at w; cases w).trans (o.pin j q hq).2⟩, fun a fs hq => kpH a fs hq⟩, ⟨Ex.refl _, fun a u h n => ?_, fun _ _ _ h _ => h, fun a u h => ?_, fun q hq => ?_⟩⟩
  · rw [L2.upd_ne (ng a u h)]; exact o.sub a u h
  · by_cases z : j = i
    · subst z; rw [self] at h; cases h
    · rw [other j z] at h; exact o.ro j e h
  · by_cases z : j = i
    · subst z; rw [self] at h; cases h
      exact ⟨p, hp, g, hr, hb1, hb0⟩
    · rw [other j z] at h
      obtain ⟨q, h1, h2, h3, h4⟩ := o.own j c e h
      have ne : q ≠ p := fun y => z (o.inj j i c b e d p h hi (y ▸ h1) hp)
      exact ⟨q, h1, h2, h3.move (Ex.refl G) (L2.upd_ne ne), h4⟩
  · obtain ⟨e1', h1⟩ := back j c1 e1 h1
    obtain ⟨e2', h2⟩ := back l c2 e2 h2
    exact o.inj j l c1 c2 e1' e2' q h1 h2 h3 h4
  · have ne : a ≠ p := fun z => by
      subst z
      cases b with
      | true => exact n i (hb1 rfl)
      | false => rw [hb0 rfl] at h; cases h
    rw [L2.upd_ne ne]
    exact o.keep a u h n
  · by_cases z : j = i
    · subst z; rw [self] at h; cases h
    · rw [other j z] at h; exact o.scr j ns h
  · obtain ⟨h1, e, h2⟩ := o.par j q hq
    by_cases z : j = i
    · subst z
      rw [hi] at h2
      cases h2
      exact ⟨h1, d', self⟩
    · exact ⟨h1, e, (other j z).trans h2⟩
  · have ne : a ≠ p := fun z => n (z ▸ ⟨i, b, d, hi, hp⟩)
    rw [L2.upd_ne ne]
    exact h
  · by_cases z : a = p
    · subst z; exact ⟨ob, L2.upd_same⟩
    · exact ⟨u, by rw [L2.upd_ne z]; exact h⟩
  · obtain ⟨j, c, e, h1, h2⟩ := hq
    obtain ⟨e', h1⟩ := back j c e h1
    exact ⟨j, c, e', h1, h2⟩
section
variable {T : Nat → Option Fc} {X : L2.Cx} {W : L2.WX} {B : Bs} {G G' H H' : Hp} {σ : L2.St} {Γ Γ' : Ev} {k : Kd} {d : D} {v : V} {r : R} {Q : L2.VK} {δ : Dl}
abbrev RMt := V → List V → Hp → L2.VK → Prop
/-- a method that changes nothing -/
def OpM (X : L2.Cx) (W : L2.WX) (B : Bs) (Ty : String) (P : RMt → Prop) (m : Mt) : Prop :=
  ∀ k1 d1 kds k d, mtTy m k1 d1 = some Ty → mtD m d1 kds = some (k, d) →
    ∃ r : RMt, P r ∧ ∀ (Γ : Ev) (σ : L2.St) (G H : Hp) (v : V) (vs : List V) (Q : L2.VK), Ok B X.K G H σ Γ → Vl B X.K σ Γ G H k1 d1 v → Vls B X.K σ Γ G H kds vs → Pst X W B σ Γ G H (.ok k d []) Q → r v vs H Q
/-- a method that changes its list -/
def OpU (X : L2.Cx) (W : L2.WX) (B : Bs) (P : RMt → Prop) (m : Mt) : Prop :=
  ∀ ds kds d ds', muD m ds kds = some (d, ds') → ∃ r : RMt, P r ∧ ∀ (Γ : Ev) (σ : L2.St) (G H : Hp) (p : Addr) (ws : List V) (vs : List V) (Q : L2.VK), Ok B X.K G H σ Γ → H p = some (.lst ws) → RpA X.K G ws ds → Vls B X.K σ Γ G H kds vs →
    (∀ v ws', RpA X.K G ws' ds' → Rp X.K G v d → Q v (L2.upd H p (.lst ws'))) → r (.ref p) vs H Q
theorem mtr_false {id : String} : L2.MtR X id fun _ _ _ _ => False := by
  unfold L2.MtR
  intros
  contradiction
theorem ty_of {m : Mt} {Ty : String} (h : mtTy m k d = some Ty) (o : Ok B X.K G H σ Γ) (w : Vl B X.K σ Γ G H k d v) : L2.tyV X.K Ty v H := by
  cases d with
  | list ds =>
    obtain ⟨a, vs, rfl, ha, _⟩ := w.items o
    have e : Ty = "list" := by
      cases m <;> cases k <;> first | (cases h; rfl) | cases h
    exact .inl ⟨e, vs, ha⟩
  | str x =>
    rw [w.str o]
    show Ty = "str"
    cases m <;> first | (cases h; rfl) | cases h
  | _ => cases h
theorem se_mtN {e o : Expr} {es : List Expr} {co : E} {cs : Es} {m : Mt} {Ty : String} {P : RMt → Prop} (hm : muts m = false) (pf : P fun _ _ _ _ => False) (mk : ∀ {r : RMt} {to : L2.TE} {ta : L2.TA}, P r → L2.PE X o to → L2.PA X es ta → L2.PE X e (L2.tBM X.K Ty r to ta))
    (ho : SE T X W B o co) (ha : SA T X W B es cs) (hT : ∀ k d Ty', mtTy m k d = some Ty' → Ty' = Ty) (hF : OpM X W B Ty P m) : SE T X W B e (.mt m co cs) := by
  intro Γ r h
  unfold evalE at h
  rcases thn_some h with ⟨c, δ, h1, rfl⟩ | ⟨k1, d1, δ1, r', h1, h2, rfl⟩
  · exact pe_imp (mk pf (ho Γ _ h1) pa_no) fun σ H Q q => q
  · split at h2
    · cases h2
    · rename_i Ty' ht
      have ety := hT _ _ _ ht
      subst ety
      split at h2
      · rename_i kds δ2 h3
        split at h2
        · rename_i hk
          simp only [hm, Bool.false_eq_true, if_false] at h2
          obtain ⟨⟨k, d⟩, h4, rfl⟩ := Option.map_eq_some_iff.mp h2
          obtain ⟨rr, hp, hr⟩ := hF k1 d1 kds k d ht h4
          refine pe_imp (mk hp (ho Γ _ h1) (ha _ _ _ h3)) fun σ H Q ⟨G, o, q⟩ => ?_
          refine ⟨G, o, fun v G1 H1 o1 s1 w1 _ => ⟨ty_of ht o1 w1, G1, o1, fun vs G2 H2 o2 s2 w2 => ?_⟩⟩
          refine hr _ σ G2 H2 v vs Q o2 (w1.step o2 s2 hk) w2 ?_
          have q2 := Pst.pre q s1
          exact Pst.pre (δ := δ2) (r := .ok k d []) (by show Pst X W B σ (apd Γ δ1) G1 H1 (.ok k d (δ2 ++ [])) Q; rw [List.append_nil]; exact q2) s2
        · cases h2
      · rename_i c δ2 h3
        cases h2
        refine pe_imp (mk pf (ho Γ _ h1) (ha _ _ _ h3)) fun σ H Q ⟨G, o, q⟩ => ?_
        exact ⟨G, o, fun v G1 H1 o1 s1 w1 _ => ⟨ty_of ht o1 w1, G1, o1, Pst.pre q s1⟩⟩
      · cases h2
theorem se_muN {e o : Expr} {es : List Expr} {co : E} {cs : Es} {m : Mt} {P : RMt → Prop} (hm : muts m = true) (pf : P fun _ _ _ _ => False) (mk : ∀ {r : RMt} {to : L2.TE} {ta : L2.TA}, P r → L2.PE X o to → L2.PA X es ta → L2.PE X e (L2.tBM X.K "list" r to ta))
    (ho : SE T X W B o co) (ha : SA T X W B es cs) (hT : ∀ k d Ty', mtTy m k d = some Ty' → Ty' = "list") (hF : OpU X W B P m) : SE T X W B e (.mt m co cs) := by
  intro Γ r h
  unfold evalE at h
  rcases thn_some h with ⟨c, δ, h1, rfl⟩ | ⟨k1, d1, δ1, r', h1, h2, rfl⟩
  · exact pe_imp (mk pf (ho Γ _ h1) pa_no) fun σ H Q q => q
  · split at h2
    · cases h2
    · rename_i Ty' ht
      have ety := hT _ _ _ ht
      subst ety
      split at h2
      · rename_i kds δ2 h3
        split at h2
        · rename_i hk
          split at h2
          · rename_i i ds
            obtain ⟨⟨d, ds'⟩, h4, rfl⟩ := Option.map_eq_some_iff.mp h2
            obtain ⟨rr, hp, hr⟩ := hF ds kds d ds' h4
            refine pe_imp (mk hp (ho Γ _ h1) (ha _ _ _ h3)) fun σ H Q ⟨G, o, q⟩ => ?_
            refine ⟨G, o, fun v G1 H1 o1 s1 w1 _ => ⟨ty_of ht o1 w1, G1, o1, fun vs G2 H2 o2 s2 w2 => ?_⟩⟩
            have w1' := w1.step o2 s2 hk
            obtain ⟨⟨b, hi⟩, hv⟩ := w1'
            obtain ⟨p, hp2, g, ⟨ws, hw, rw'⟩, hb⟩ := o2.own i b _ hi
            have ev : v = .ref p := by
              rw [hp2] at hv
              exact (Option.some.inj (Option.some.inj hv)).symm
            subst ev
            refine hr _ σ G2 H2 p ws vs Q o2 hw rw' w2 fun z ws' rws rz => ?_
            obtain ⟨o3, s3⟩ := o2.mut (ob := .lst ws') (d' := .list ds') hi hp2 ⟨ws', L2.upd_same, rws⟩
            have es : sets i (apd (apd Γ δ1) δ2) ds' = [(i, .own b (.list ds'))] := by unfold sets; rw [hi]
            have q2 := Pst.pre q s1
            rw [es] at q2
            have q3 := Pst.pre (δ := δ2) (r := .ok .ro d [(i, .own b (.list ds'))]) q2 s2
            exact q3 z G2 _ o3 s3 rz fun z => nomatch z
          · cases h2
        · cases h2
      · rename_i c δ2 h3
        cases h2
        refine pe_imp (mk pf (ho Γ _ h1) (ha _ _ _ h3)) fun σ H Q ⟨G, o, q⟩ => ?_
        exact ⟨G, o, fun v G1 H1 o1 s1 w1 _ => ⟨ty_of ht o1 w1, G1, o1, Pst.pre q s1⟩⟩
      · cases h2
/-! ### the methods -/
theorem op_append : OpU X W B (fun r => L2.MtR X "list.append" r) .append := by
  intro ds kds d ds' h
  unfold muD at h
  split at h <;> first | (cases h; done) | (rename_i hb; cases hb; done) | skip
  rename_i e
  split at h
  · rename_i hz
    cases h
    refine ⟨_, L2.mt_append, fun Γ σ G H p ws vs Q o hp rw w q => ?_⟩
    obtain ⟨v, rfl, w1⟩ := vls1 w
    exact ⟨p, ws, v, rfl, rfl, hp, by rw [rw.length]; exact hz, q _ _ (rw.append (.cons w1 .nil)) .non⟩
  · cases h
theorem op_pop : OpU X W B (fun r => L2.MtR X "list.pop" r) .pop := by
  intro ds kds d ds' h
  unfold muD at h
  split at h <;> first | (cases h; done) | (rename_i hb; cases hb; done) | skip
  split at h
  · rename_i e hl
    cases h
    refine ⟨_, L2.mt_pop, fun Γ σ G H p ws vs Q o hp rw w q => ?_⟩
    cases w
    have hl' : ds[ds.length - 1]? = some d := by rw [← List.getLast?_eq_getElem?]; exact hl
    obtain ⟨v, h1, h2⟩ := rw.get hl'
    rw [← rw.length] at h1
    exact ⟨p, ws, v, rfl, rfl, hp, h1, q v _ rw.dropLast h2⟩
  · cases h
theorem op_reverse : OpU X W B (fun r => L2.MtR X "list.reverse" r) .reverse := by
  intro ds kds d ds' h
  unfold muD at h
  split at h <;> first | (cases h; done) | (rename_i hb; cases hb; done) | skip
  cases h
  refine ⟨_, L2.mt_reverse, fun Γ σ G H p ws vs Q o hp rw w q => ?_⟩
  cases w
  exact ⟨p, ws, rfl, rfl, hp, q _ _ rw.reverse .non⟩
theorem op_extend : OpU X W B (fun r => L2.MtR X "list.extend" r) .extend := by
  intro ds kds d ds' h
  unfold muD at h
  split at h <;> first | (cases h; done) | (rename_i hb; cases hb; done) | skip
  rename_i kk es
  split at h
  · rename_i hz
    obtain ⟨hk, hz⟩ := hz
    cases h
    refine ⟨_, L2.mt_extend, fun Γ σ G H p ws vs Q o hp rw w q => ?_⟩
    obtain ⟨v, rfl, w1⟩ := vls1 w
    obtain ⟨b, zs, rfl, hb, rb⟩ := w1.itemsM o (by rintro rfl; cases hk)
    exact ⟨p, b, ws, zs, rfl, rfl, hp, hb, by rw [rw.length, rb.length]; exact hz, q _ _ (rw.append rb) .non⟩
  · cases h
theorem op_join : OpM X W B "str" (fun r => L2.MtR X "str.join" r) .join := by
  intro k1 d1 kds k d ht h
  unfold mtD at h
  split at h <;> first | (rename_i hb; cases hb; done) | (cases h; done) | skip
  rename_i x kk ds _
  obtain ⟨ys, h1, h2⟩ := Option.bind_eq_some_iff.mp h
  split at h2
  · rename_i hz
    cases h2
    refine ⟨_, L2.mt_join, fun Γ σ G H v vs Q o w ws q => ?_⟩
    rw [w.str o]
    obtain ⟨u, rfl, w1⟩ := vls1 ws
    obtain ⟨a, zs, rfl, ha, ra⟩ := w1.items o
    rw [strs_of h1] at ra
    rw [ra.strs_inv] at ha
    exact ⟨x, a, ys, rfl, rfl, .inl ha, hz, q.ro o (.str _)⟩
  · cases h2
theorem op_split : OpM X W B "str" (fun r => L2.MtR X "str.split" r) .split := by
  intro k1 d1 kds k d ht h
  unfold mtD at h
  split at h <;> first | (rename_i hb; cases hb; done) | (cases h; done) | skip
  rename_i x kk y _
  split at h
  · rename_i hz
    cases h
    refine ⟨_, L2.mt_split, fun Γ σ G H v vs Q o w ws q => ?_⟩
    rw [w.str o]
    obtain ⟨u, rfl, w1⟩ := vls1 ws
    rw [w1.str o]
    exact ⟨x, y, rfl, rfl, hz.1, hz.2, q.newL o RpA.strs⟩
  · cases h
end
end Fd
end
section
set_option maxRecDepth 100000
set_option maxHeartbeats 2000000
namespace Fd
open PySem PySem.Spec PyProof.Rows
/-- a def keeps a promise where no repr is under way -/
structure FnG (P : Program) (w : World) (K : Frag) (mg : Str → Option Value) (base : Heap) (k : Nat) (f : Addr) (fd : FuncData) (ps : List Str) (sp : L2.Sp) : Prop where
  len : ∀ vs H Q E, sp vs H Q E → vs.length = ps.length
  run : ∀ (A : Around) (outer : List Env) (s : Shared) (H : Hp) (us : List Value) (vs : List V) (Q : L2.VK) (E : L2.XK), L2.Room k A → A.guards = some [] → L2.Env0 P w K mg base A outer s H →
    BindsTo s fd ⟨us, []⟩ (ps.zip us) → L2.Vals vs us → sp vs H Q E → codeAny (model P w) A (.call (.ref f) ⟨us, []⟩) (L2.CR (L2.CX P w) outer P w H s Q E) s
theorem FnG.mono {P : Program} {w : World} {K : Frag} {mg : Str → Option Value} {base : Heap} {j k : Nat} {f : Addr} {fd : FuncData} {ps : List Str} {sp : L2.Sp} (F : FnG P w K mg base j f fd ps sp) (h : j ≤ k) : FnG P w K mg base k f fd ps sp :=
  ⟨F.len, fun A outer s H us vs Q E hr => F.run A outer s H us vs Q E (hr.mono h)⟩
section
variable {X : L2.Cx} {W : L2.WX} {k : Nat} {f : Addr} {fd : FuncData} {ps : List Str} {sp : L2.Sp}
theorem callee {pins : List (Addr × Obj)} {σ : L2.St} {H : Hp} {s : Shared} {Q : L2.VK} {us : List Value} {vs : List V} (F : FnG X.prog X.w X.K X.mg X.base k f fd ps sp) (hr : L2.Room k X.A) (hg : X.A.guards = some []) (hb : L2.Binds X.K fd ps [])
    (tk : L2.Takes X W) (I : L2.Inv X pins σ H s) (r : L2.Vals vs us) (h : sp vs H Q (L2.WE W σ)) : wpAny (model X.prog X.w) X.A (call (.ref f) us) (L2.EP X pins σ Q) X.xe s := by
  have e : us.length = ps.length := r.length.symm.trans (F.len _ _ _ _ h)
  have b := hb s us I.kIn (by simpa using e)
  rw [List.append_nil] at b
  refine wpAny_call (codeAny_mono (F.run X.A X.stack s H us vs Q (L2.WE W σ) hr hg I.env0 b r h) fun res s' q => ?_)
  rcases res with e | fl
  · exact L2.passAt tk σ pins H s e s' I q
  · rcases fl with _ | _ | _ | u
    all_goals first | exact I.after q | exact q.elim
theorem pe_user {x : Str} {e : Expr} {es : List Expr} {p pos : Pos} {t : L2.TA} (F : FnG X.prog X.w X.K X.mg X.base k f fd ps sp) (hr : L2.Room k X.A) (hgd : X.A.guards = some []) (hg : L2.Gl X x) (hm : X.mg x = some (.ref f)) (hk : PySem.W.keepIn X.K (.ref f) = true)
    (hb : L2.Binds X.K fd ps []) (tk : L2.Takes X W) (ha : L2.PA X (e :: es) t) (hdb : (x == ("__debug__" : Str)) = false := by decide) (he : starEach (e :: es) X.env = (false, eval e X.env) :: starEach es X.env := by rfl) (hpl : (backTo pos (starEach es X.env)).any (·.1) = false := by rfl) :
    L2.PE X (.Call (.Name x p) (e :: es) [] pos) (L2.tCallS sp (L2.WE W) t) := by
  constructor
  intro pins s σ H Q I h
  have go := L2.thn (ha.run pos pins s σ H _ I h) fun us s1 hh => (show X.K.In s1.heap ∧ wpAny (model X.prog X.w) X.A (call (.ref f) us) (L2.EP X pins σ Q) X.xe s1 from
    let ⟨vs, H1, I1, r, q⟩ := hh
    ⟨I1.kIn, callee F hr hgd hb tk I1 r q⟩)
  exact wpAny_Call_Name_kw (L2.ld_glob I hg hm (PySem.W.callWith_K (h₀ := X.base) I.ok.mod.kin hk go he hpl) hdb)
end
/-- a def of the text, by its body -/
theorem fnG_of {P : Program} {w : World} {K : Frag} {mg : Str → Option Value} {base : Heap} {k : Nat} {f : Addr} {x qual : Str} {st : Stmt} {fd : FuncData} {N ps : List Str} {sp : L2.Sp} (F : L2.Fun K x qual st f fd) (S : L2.FnScope N ps (L2.defScope st))
    (len : ∀ vs H Q E, sp vs H Q E → vs.length = ps.length)
    (body : ∀ (cdv : Value) (A : Around) (outer : List Env) (s : Shared) (H : Hp) (vs : List V) (Q : L2.VK) (E : L2.XK), L2.Room k (A.deeper (envOfC qual (L2.defScope st) s.heap.objs.size f cdv)) → A.guards = some [] → sp vs H Q E →
      ∃ t, L2.PSs (L2.cxOf (L2.CX P w) P w K mg base N qual (L2.defScope st) f cdv A outer s H E) (L2.defBody st) t ∧ t { nx := fun _ H' => Q .non H', rt := Q } (L2.start N vs) H) : FnG P w K mg base (k + 1) f fd ps sp := by
  obtain ⟨oc, od, kV, doc, pm, an, cdv, ct, osl, rfl, lk, hcd⟩ := F.ex
  refine ⟨len, ?_⟩
  intro A outer s H us vs Q E hr hgd e0 hb r hsp
  have hK : K.In s.heap := e0.mod.kin.keeps fun b o e => (e0.bs b o e).1
  have hlim : s.heap.NoLimit := e0.mod.nolimit.keeps fun b o e => (e0.bs b o e).1
  have kinds : ∀ y ∈ ps.zip us, (L2.defScope st).names.lookup y.1 = some .local ∨ ((L2.defScope st).names.lookup y.1 = some .cell ∧ ((cellsFrom (s.heap.objs.size + 1) (L2.defScope st).names []).lookup y.1).isSome = true) := by
    rintro ⟨n, v⟩ hy
    rcases S.par n (List.of_mem_zip hy).1 with q | q
    · exact .inl q
    · exact .inr ⟨q, PySem.W.cellsFrom_some _ _ _ (.inl q)⟩
  refine codeAny_call_function hr.depth (hK _ _ lk) rfl S.co S.gen rfl (PySem.W.codeRec_of hK hcd) (hb _ _ _ _ ?_)
  refine wpAny_newFunctionEnv_cells S.kind kinds fun env he s1 y => ?_
  subst he
  refine ⟨hlim.keeps y.toInCall.keep, codeAny_func ?_⟩
  obtain ⟨t, ht, hq⟩ := body cdv A outer s H vs Q E (hr.deeper _) hgd hsp
  have I := L2.inv_start (CX := L2.CX P w) (base := base) (E := E) S hr.hd e0 (len _ _ _ _ hsp) r y
  refine wpAny_mono (ht.run [] s1 _ H _ I hq) (fun fl s' hs => ?_) fun e s' hs => hs
  rcases fl with _ | _ | _ | u
  · obtain ⟨σ', H', J, q⟩ := hs
    exact ⟨.non, H', J.os, J.bare, J.base, J.hok, rfl, q⟩
  · obtain ⟨_, _, _, q⟩ := hs
    exact q.elim
  · obtain ⟨_, _, _, q⟩ := hs
    exact q.elim
  · obtain ⟨v, σ', H', J, rv, q⟩ := hs
    exact ⟨v, H', J.os, J.bare, J.base, J.hok, rv, q⟩
end Fd
end
section
set_option maxRecDepth 100000
set_option maxHeartbeats 2000000
namespace Fd
open PySem
/-- arguments as a def takes them; ps: the list that it may change -/
inductive Ha (K : Frag) (G H : Hp) : (Nat → Md) → List V → List D → List Addr → Prop
  | nil (m : Nat → Md) : Ha K G H m [] [] []
  | fz {m : Nat → Md} {v : V} {d : D} {vs : List V} {ds : List D} {ps : List Addr} : m 0 = .fz → Rp K G v d → Ha K G H (fun n => m (n + 1)) vs ds ps → Ha K G H m (v :: vs) (d :: ds) ps
  | io {m : Nat → Md} {p : Addr} {d : D} {vs : List V} {ds : List D} {ps : List Addr} : m 0 = .io → G p = none → OwnR K G H p d → Ha K G H (fun n => m (n + 1)) vs ds ps → Ha K G H m (.ref p :: vs) (d :: ds) (p :: ps)
  | sc {m : Nat → Md} {a : Addr} {ns : List Int} {vs : List V} {ds : List D} {ps : List Addr} : m 0 = .sc → L2.SqL K G a (ns.map L2.V.int) → Ha K G H (fun n => m (n + 1)) vs ds ps → Ha K G H m (.ref a :: vs) (.list (ns.map PyData.int) :: ds) ps
theorem Ha.length {K : Frag} {G H : Hp} {m : Nat → Md} {vs : List V} {ds : List D} {ps : List Addr} (h : Ha K G H m vs ds ps) : vs.length = ds.length := by
  induction h <;> simp_all
inductive Outs (K : Frag) (G H : Hp) : List Addr → List D → Prop
  | nil : Outs K G H [] []
  | one {p : Addr} {d : D} : OwnR K G H p d → Outs K G H [p] [d]
/-- behind a call -/
structure Back (K : Frag) (ps : List Addr) (outs : List D) (G H G' H' : Hp) : Prop where
  sub : Ex G' H'
  exG : Ex G G'
  keep : ∀ a o, H a = some o → a ∉ ps → H' a = some o
  thin : ∀ a o, H a = some o → G a = none → G' a = none
  outs : Outs K G' H' ps outs
def spOf (K : Frag) (mg : Str → Option Value) (n : Nat) (F : Fc) : L2.Sp := fun vs H Q E => ∃ G ds ps r, Ex G H ∧ Ha K G H (modeAt F.ms) vs ds ps ∧ vs.length = n ∧ F.f ds = some r ∧ match r with
  | .ok fresh d outs => ∀ v G' H', Back K ps outs G H G' H' → (if fresh then ∃ p, v = .ref p ∧ H p = none ∧ G' p = none ∧ OwnR K G' H' p d else Rp K G' v d) → Q v H'
  | .ex c outs => ∀ cls dd G' H', Back K ps outs G H G' H' → ExI mg K G' H' c cls dd → E cls dd H'
section
variable {T : Nat → Option Fc} {X : L2.Cx} {W : L2.WX} {B : Bs} {G G' H H' : Hp} {σ : L2.St} {Γ Γ' : Ev} {k : Kd} {d : D} {v : V} {r : R} {Q : L2.VK} {δ : Dl}
/-- what kinds the arguments came to -/
def Kok (m : Nat → Md) : List (Kd × D) → Prop
  | [] => True
  | (k, _) :: r => (match m 0 with
    | .fz => k = .ro
    | .io => ∃ i, k = .al i
    | .sc => k = .sc
    | .bo => False) ∧ Kok (fun n => m (n + 1)) r
theorem evalA_kok {c : Es} : ∀ {m : Nat → Md} {Γ : Ev} {kds : List (Kd × D)} {δ : Dl}, (∀ n, m n ≠ .bo) → evalA T m c Γ = some (.ok kds δ) → Kok m kds := by
  intro m Γ kds δ hm h
  match c with
  | .nil => unfold evalA at h; cases h; trivial
  | .cons e es =>
    unfold evalA at h
    split at h
    · split at h
      · rename_i k d δ h1 k' δ' h2
        split at h
        · rename_i kds' δ2 h3
          split at h
          · cases h
            refine ⟨?_, evalA_kok (c := es) (fun n => hm (n + 1)) h3⟩
            unfold Fd.pass at h2
            cases e : m 0 with
            | bo => exact absurd e (hm 0)
            | fz =>
              rw [e] at h2
              simp only at h2 ⊢
              split at h2
              · cases h2; rfl
              · cases h2
            | io =>
              rw [e] at h2
              simp only at h2 ⊢
              split at h2
              · rename_i i; cases h2; exact ⟨i, rfl⟩
              · cases h2
            | sc =>
              rw [e] at h2
              simp only at h2 ⊢
              split at h2
              · cases h2; rfl
              · cases h2
          · cases h
        · cases h
        · cases h
      · cases h
    · cases h
    · cases h
/-- the io slots' addresses -/
def Pix (σ : L2.St) : List Nat → List Addr → Prop
  | [], ps => ps = []
  | i :: r, ps => ∃ p qs, ps = p :: qs ∧ σ[i]? = some (some (.ref p)) ∧ Pix σ r qs
theorem Vls.ha (o : Ok B X.K G H σ Γ) : ∀ {m : Nat → Md} {kds : List (Kd × D)} {vs : List V}, Kok m kds → Vls B X.K σ Γ G H kds vs → ∃ ps, Ha X.K G H m vs (kds.map (·.2)) ps ∧ Pix σ (ioIx m kds) ps
  | m, _, _, _, .nil => ⟨[], .nil m, rfl⟩
  | m, (k, d) :: r, v :: vs, ⟨h1, h2⟩, .cons w ws => by
    obtain ⟨ps, q1, q2⟩ := Vls.ha o h2 ws
    cases e : m 0 with
    | bo => rw [e] at h1; exact h1.elim
    | fz =>
      rw [e] at h1
      have h1 : k = .ro := h1
      subst h1
      refine ⟨ps, .fz e w q1, ?_⟩
      unfold ioIx
      rw [e]
      exact q2
    | io =>
      rw [e] at h1
      obtain ⟨i, rfl⟩ := (show ∃ i, k = .al i from h1)
      obtain ⟨⟨b, hi⟩, hv⟩ := w
      obtain ⟨p, e1, e2, e3, _⟩ := o.own i b _ hi
      have ev : v = .ref p := by
        rw [e1] at hv
        exact (Option.some.inj (Option.some.inj hv)).symm
      subst ev
      refine ⟨p :: ps, .io e e2 e3 q1, ?_⟩
      unfold ioIx
      rw [e]
      exact ⟨p, ps, rfl, e1, q2⟩
    | sc =>
      rw [e] at h1
      have h1 : k = .sc := h1
      subst h1
      obtain ⟨a, ns, rfl, e2, e3⟩ := w
      have e2 : d = .list (ns.map PyData.int) := e2
      subst e2
      refine ⟨ps, .sc e e3 q1, ?_⟩
      unfold ioIx
      rw [e]
      exact q2
theorem hit_one {i j : Nat} {s : Slot} : hit [(i, s)] j = (i == j) := by simp [hit]
/-- behind a call, the environment -/
theorem Ok.back {ixs : List Nat} {ps : List Addr} {outs : List D} {δ' : Dl} (o : Ok B X.K G H σ Γ) (hp : Pix σ ixs ps) (he : outD Γ ixs outs = some δ') (b : Back X.K ps outs G H G' H') : Ok B X.K G' H' σ (apd Γ δ') ∧ Stp σ Γ G H (apd Γ δ') G' H' := by
  match ixs, outs, he with
  | [], [], he =>
    cases he
    cases hp
    have k : Ex H H' := fun a u h => b.keep a u h (by simp)
    refine ⟨⟨b.sub, fun i d h => ?_, fun i c d h => ?_, o.inj, o.exG.trans b.exG, fun a u h n => k a u (o.keep a u h n), fun a u h g => ?_, fun i ns h => ?_, o.par, o.len, o.pin, fun a fs h => k a _ (o.kp a fs h)⟩, ⟨b.exG, fun a u h _ => k a u h, fun a u h g _ => b.thin a u h g, fun a u h => ⟨u, k a u h⟩, fun _ h => h⟩⟩
    · obtain ⟨v, h1, h2⟩ := o.ro i d h
      exact ⟨v, h1, h2.ex b.exG⟩
    · obtain ⟨p, h1, h2, h3, h4⟩ := o.own i c d h
      obtain ⟨u, hu⟩ := h3.here
      exact ⟨p, h1, b.thin p u hu h2, h3.move b.exG ((k p u hu).trans hu.symm), h4⟩
    · by_cases hm : ∃ j, (j, a) ∈ B.par
      · obtain ⟨j, hj⟩ := hm
        obtain ⟨h1, d, h2⟩ := o.par j a hj
        obtain ⟨p, e1, e2, e3, _⟩ := o.own j true d h2
        rw [h1] at e1
        cases e1
        obtain ⟨u', hu⟩ := e3.here
        exact b.thin a u' hu e2
      · exact b.thin a u (o.keep a u h fun j hj => hm ⟨j, hj⟩) (o.thin a u h g)
    · obtain ⟨a, h1, h2⟩ := o.scr i ns h
      exact ⟨a, h1, ex_l b.exG h2⟩
  | [i], [oo], he =>
    simp only [outD] at he
    split at he
    · rename_i bb d0 hi
      cases he
      obtain ⟨p, qs, rfl, hv, hq⟩ := hp
      cases hq
      have ho := b.outs
      cases ho with
      | one ho =>
        obtain ⟨p', e1, e2, e3, hb1, hb0⟩ := o.own i bb d0 hi
        rw [hv] at e1
        cases e1
        obtain ⟨u0, hu0⟩ := e3.here
        have gp : G' p = none := b.thin p u0 hu0 e2
        have hlt : i < Γ.length := (List.getElem?_eq_some_iff.mp hi).1
        have self : (Γ.set i (.own bb oo))[i]? = some (.own bb oo) := List.getElem?_set_self hlt
        have other : ∀ j, j ≠ i → (Γ.set i (.own bb oo))[j]? = Γ[j]? := fun j n => List.getElem?_set_ne (Ne.symm n)
        have bk : ∀ j c e, (Γ.set i (.own bb oo))[j]? = some (Slot.own c e) → ∃ e', Γ[j]? = some (Slot.own c e') := fun j c e h => by
          by_cases z : j = i
          · subst z; rw [self] at h; cases h; exact ⟨d0, hi⟩
          · exact ⟨e, (other j z).symm.trans h⟩
        have k : ∀ a u, H a = some u → a ≠ p → H' a = some u := fun a u h n => b.keep a u h (by simpa using n)
        have kpH : ∀ a fs, (a, fs) ∈ B.kp → H' a = some (.xd fs) := fun a fs hq => by
          have z := o.kp a fs hq
          have ne : a ≠ p := fun y => by
            subst y
            cases d0 with
            | list ds => obtain ⟨vs, h, _⟩ := e3; rw [z] at h; cases h
            | dict ds => obtain ⟨vs, h, _⟩ := e3; rw [z] at h; cases h
            | _ => exact e3.elim
          exact k a _ z ne
        show Ok B X.K G' H' σ (Γ.set i (.own bb oo)) ∧ Stp σ Γ G H (Γ.set i (.own bb oo)) G' H'
        refine ⟨⟨b.sub, fun j d h => ?_, fun j c d h => ?_, fun j l c1 c2 f1 f2 q h1 h2 h3 h4 => ?_, o.exG.trans b.exG, fun a u h n => ?_, fun a u h g => ?_, fun j ns h => ?_, fun j q hq => ?_, by rw [List.length_set]; exact o.len, fun j q hq => ⟨(o.pin j q hq).1, (other j fun y => by have w := (o.pin j q hq).2; rw [y, hi] at w; cases w).trans (o.pin j q hq).2⟩, fun a fs hq => kpH a fs hq⟩, ⟨b.exG, fun a u h n => ?_, fun a u h g _ => b.thin a u h g, fun a u h => ?_, fun q hq => ?_⟩⟩
        · by_cases z : j = i
          · subst z; rw [self] at h; cases h
          · rw [other j z] at h
            obtain ⟨v, h1, h2⟩ := o.ro j d h
            exact ⟨v, h1, h2.ex b.exG⟩
        · by_cases z : j = i
          · subst z; rw [self] at h; cases h
            exact ⟨p, hv, gp, ho, hb1, hb0⟩
          · rw [other j z] at h
            obtain ⟨q, h1, h2, h3, h4⟩ := o.own j c d h
            have ne : q ≠ p := fun y => z (o.inj j i c bb d d0 p h hi (y ▸ h1) hv)
            obtain ⟨u, hu⟩ := h3.here
            exact ⟨q, h1, b.thin q u hu h2, h3.move b.exG ((k q u hu ne).trans hu.symm), h4⟩
        · obtain ⟨e1', h1⟩ := bk j c1 f1 h1
          obtain ⟨e2', h2⟩ := bk l c2 f2 h2
          exact o.inj j l c1 c2 e1' e2' q h1 h2 h3 h4
        · have ne : a ≠ p := fun z => by
            subst z
            cases bb with
            | true => exact n i (hb1 rfl)
            | false => rw [hb0 rfl] at h; cases h
          exact k a u (o.keep a u h n) ne
        · by_cases hm : ∃ j, (j, a) ∈ B.par
          · obtain ⟨j, hj⟩ := hm
            obtain ⟨h1, d, h2⟩ := o.par j a hj
            obtain ⟨p', e1, e2, e3, _⟩ := o.own j true d h2
            rw [h1] at e1
            cases e1
            obtain ⟨u', hu⟩ := e3.here
            exact b.thin a u' hu e2
          · exact b.thin a u (o.keep a u h fun j hj => hm ⟨j, hj⟩) (o.thin a u h g)
        · by_cases z : j = i
          · subst z; rw [self] at h; cases h
          · rw [other j z] at h
            obtain ⟨a, h1, h2⟩ := o.scr j ns h
            exact ⟨a, h1, ex_l b.exG h2⟩
        · obtain ⟨h1, e, h2⟩ := o.par j q hq
          by_cases z : j = i
          · subst z
            rw [hi] at h2
            cases h2
            exact ⟨h1, oo, self⟩
          · exact ⟨h1, e, (other j z).trans h2⟩
        · exact k a u h fun z => n (z ▸ ⟨i, bb, d0, hi, hv⟩)
        · by_cases z : a = p
          · subst z; exact ho.here
          · exact ⟨u, k a u h z⟩
        · obtain ⟨j, c, e, h1, h2⟩ := hq
          obtain ⟨e', h1⟩ := bk j c e h1
          exact ⟨j, c, e', h1, h2⟩
    · cases he
theorem modeAt_nobo {ms : List Md} (h : ms.all (fun m => match m with | .bo => false | _ => true) = true) (n : Nat) : modeAt ms n ≠ .bo := by
  unfold modeAt
  rw [List.getD_eq_getElem?_getD]
  intro e
  cases q : ms[n]? with
  | none => rw [q] at e; cases e
  | some m =>
    rw [q] at e
    have := List.all_eq_true.mp h _ (List.mem_of_getElem? q)
    rw [show m = .bo from e] at this
    cases this
def esLen : Es → Nat
  | .nil => 0
  | .cons _ r => esLen r + 1
theorem evalA_len {c : Es} : ∀ {m : Nat → Md} {Γ : Ev} {kds : List (Kd × D)} {δ : Dl}, evalA T m c Γ = some (.ok kds δ) → kds.length = esLen c := by
  intro m Γ kds δ h
  match c with
  | .nil => unfold evalA at h; cases h; rfl
  | .cons e es =>
    unfold evalA at h
    split at h
    · split at h
      · split at h
        · rename_i h3
          split at h
          · cases h
            show _ + 1 = esLen es + 1
            rw [evalA_len (c := es) h3]
          · cases h
        · cases h
        · cases h
      · cases h
    · cases h
    · cases h
theorem Vls.length {kds : List (Kd × D)} {vs : List V} (h : Vls B X.K σ Γ G H kds vs) : vs.length = kds.length := by
  induction h <;> simp_all
theorem se_call {i : Nat} {F : Fc} {x : Str} {e : Expr} {es : List Expr} {cs : Es} {p pos : Pos} {lv : Nat} {f : Addr} {fd : FuncData} {ps : List Str} (hT : T i = some F) (FN : FnG X.prog X.w X.K X.mg X.base lv f fd ps (spOf X.K X.mg (e :: es).length F)) (hr : L2.Room lv X.A) (hc : Ctx X)
    (hg : L2.Gl X x) (hm : X.mg x = some (.ref f)) (hk : PySem.W.keepIn X.K (.ref f) = true) (hb : L2.Binds X.K fd ps []) (tk : L2.Takes X W) (ha : SA T X W B (e :: es) cs) (hbo : F.ms.all (fun m => match m with | .bo => false | _ => true) = true) (hes : esLen cs = (e :: es).length)
    (hdb : (x == ("__debug__" : Str)) = false := by decide) (he : starEach (e :: es) X.env = (false, eval e X.env) :: starEach es X.env := by rfl) (hpl : (backTo pos (starEach es X.env)).any (·.1) = false := by rfl) :
    SE T X W B (.Call (.Name x p) (e :: es) [] pos) (.call i cs) := by
  intro Γ r h
  unfold evalE at h
  rw [hT] at h
  simp only at h
  split at h
  · rename_i kds δ h1
    refine pe_imp (pe_user FN hr hc.gd hg hm hk hb tk (ha _ _ _ h1) hdb he hpl) fun σ H Q ⟨G, o, q⟩ => ?_
    refine ⟨G, o, fun vs G1 H1 o1 s1 w1 => ?_⟩
    obtain ⟨ps, hha, hpx⟩ := w1.ha o1 (evalA_kok (modeAt_nobo hbo) h1)
    have hlen : vs.length = (e :: es).length := by rw [w1.length, evalA_len h1, hes]
    split at h
    · rename_i fresh d outs h2
      obtain ⟨δ', h3, rfl⟩ := Option.map_eq_some_iff.mp h
      refine ⟨G1, _, ps, _, o1.sub, hha, hlen, h2, fun v G2 H2 bk hv => ?_⟩
      obtain ⟨o2, s2⟩ := o1.back hpx h3 bk
      have e5 := apd_append Γ δ δ'
      unfold Pst at q
      simp only [e5] at q
      cases fresh with
      | true =>
        obtain ⟨pp, rfl, n1, g1, r1⟩ := hv
        refine q _ G2 H2 o2 (s1.trans s2) ⟨pp, rfl, g1, r1, fun z => o1.notOwn n1 (s2.less pp z), o1.h0 n1⟩ fun _ p' e => ?_
        cases e
        cases z : H pp with
        | none => rfl
        | some u =>
          obtain ⟨u', h'⟩ := s1.dom pp u z
          rw [n1] at h'
          cases h'
      | false => exact q _ G2 H2 o2 (s1.trans s2) hv fun z => nomatch z
    · rename_i c outs h2
      obtain ⟨δ', h3, rfl⟩ := Option.map_eq_some_iff.mp h
      refine ⟨G1, _, ps, _, o1.sub, hha, hlen, h2, fun cls dd G2 H2 bk hx => ?_⟩
      obtain ⟨o2, s2⟩ := o1.back hpx h3 bk
      have e5 := apd_append Γ δ δ'
      unfold Pst at q
      simp only [e5] at q
      exact q cls dd G2 H2 o2 (s1.trans s2) hx
    · cases h
  · rename_i c δ h1
    cases h
    exact pe_imp (pe_user FN hr hc.gd hg hm hk hb tk (ha _ _ _ h1) hdb he hpl) fun σ H Q q => q
  · cases h
end
end Fd
end
section
set_option maxRecDepth 100000
set_option maxHeartbeats 2000000
namespace Fd
open PySem
/-! ### slots turn -/
theorem apd_length : ∀ (δ : Dl) (Γ : Ev), (apd Γ δ).length = Γ.length
  | [], _ => rfl
  | (i, s) :: r, Γ => by show (apd (Γ.set i s) r).length = _; rw [apd_length r, List.length_set]
theorem apd_agree {vs : List Nat} : ∀ {δ : Dl} {Γ Γ' : Ev}, Γ'.length = Γ.length → (∀ i, i ∉ vs → Γ'[i]? = Γ[i]?) → ∀ i, i ∉ vs → (apd Γ' δ)[i]? = (apd Γ δ)[i]?
  | [], _, _, _, h, i, hi => h i hi
  | (j, s) :: r, Γ, Γ', hl, h, i, hi => by
    refine apd_agree (δ := r) (Γ := Γ.set j s) (Γ' := Γ'.set j s) (by simp [hl]) (fun l hv => ?_) i hi
    rw [List.getElem?_set, List.getElem?_set, hl, h l hv]
section
variable {X : L2.Cx} {W : L2.WX} {B : Bs} {K : Frag} {G G' H H' : Hp} {σ σ' : L2.St} {Γ Γ' Γ2 Γ2' : Ev} {k : Kd} {d : D} {v : V} {r : R} {Q : L2.VK} {δ : Dl} {vs : List Nat}
def SlOk (K : Frag) (G : Hp) (σ : L2.St) (Γ : Ev) (i : Nat) : Prop :=
  (∀ b d, Γ[i]? ≠ some (.own b d)) ∧ (∀ d, Γ[i]? = some (.ro d) → ∃ v, σ[i]? = some (some v) ∧ Rp K G v d) ∧ (∀ ns, Γ[i]? = some (.scr ns) → ∃ a, σ[i]? = some (some (.ref a)) ∧ L2.SqL K G a (ns.map L2.V.int))
theorem Ok.sw (o : Ok B K G H σ Γ) (hl : σ'.length = Γ'.length) (he : ∀ i, i ∉ vs → σ'[i]? = σ[i]? ∧ Γ'[i]? = Γ[i]?) (hv : ∀ i, i ∈ vs → SlOk K G σ' Γ' i) (hp : ∀ i, i ∈ vs → (∀ d, Γ[i]? ≠ some (.own true d)) ∧ Γ[i]? ≠ some .pin) : Ok B K G H σ' Γ' := by
  refine ⟨o.sub, fun i d h => ?_, fun i b d h => ?_, fun i j b c d e p h1 h2 h3 h4 => ?_, o.exG, o.keep, o.thin, fun i ns h => ?_, fun j p h => ?_, hl, fun j a h => ?_, o.kp⟩
  · by_cases z : i ∈ vs
    · exact (hv i z).2.1 d h
    · rw [(he i z).2] at h; rw [(he i z).1]; exact o.ro i d h
  · by_cases z : i ∈ vs
    · exact absurd h ((hv i z).1 b d)
    · rw [(he i z).2] at h; rw [(he i z).1]; exact o.own i b d h
  · have z1 : i ∉ vs := fun z => (hv i z).1 b d h1
    have z2 : j ∉ vs := fun z => (hv j z).1 c e h2
    rw [(he i z1).2] at h1
    rw [(he j z2).2] at h2
    rw [(he i z1).1] at h3
    rw [(he j z2).1] at h4
    exact o.inj i j b c d e p h1 h2 h3 h4
  · by_cases z : i ∈ vs
    · exact (hv i z).2.2 ns h
    · rw [(he i z).2] at h; rw [(he i z).1]; exact o.scr i ns h
  · obtain ⟨h1, d, h2⟩ := o.par j p h
    have z : j ∉ vs := fun z => (hp j z).1 d h2
    exact ⟨(he j z).1.trans h1, d, (he j z).2.trans h2⟩
  · obtain ⟨h1, h2⟩ := o.pin j a h
    have z : j ∉ vs := fun z => (hp j z).2 h2
    exact ⟨(he j z).1.trans h1, (he j z).2.trans h2⟩
theorem ownA_sw (he : ∀ i, i ∉ vs → σ'[i]? = σ[i]? ∧ Γ'[i]? = Γ[i]?) (hv : ∀ i, i ∈ vs → ∀ b d, Γ'[i]? ≠ some (.own b d)) (p : Addr) (h : OwnA Γ' σ' p) : OwnA Γ σ p := by
  obtain ⟨i, b, d, h1, h2⟩ := h
  have z : i ∉ vs := fun z => hv i z b d h1
  exact ⟨i, b, d, (he i z).2.symm.trans h1, (he i z).1.symm.trans h2⟩
theorem Stp.sw (s : Stp σ' Γ' G H Γ2' G' H') (f : ∀ p, OwnA Γ' σ' p → OwnA Γ σ p) (g : ∀ p, OwnA Γ2 σ p → OwnA Γ2' σ' p) : Stp σ Γ G H Γ2 G' H' :=
  ⟨s.exG, fun a o h n => s.keep a o h fun z => n (f a z), fun a o h g' n => s.thin a o h g' fun z => n (f a z), s.dom, fun p h => f p (s.less p (g p h))⟩
theorem setOk_lt {i : Nat} (h : setOk Γ i = true) : i < Γ.length ∧ (∀ d, Γ[i]? ≠ some (.own true d)) ∧ Γ[i]? ≠ some .pin := by
  unfold setOk at h
  split at h
  · cases h
  · cases h
  · rename_i s e e2 n
    exact ⟨(List.getElem?_eq_some_iff.mp n).1, fun d q => by rw [n] at q; exact e d (Option.some.inj q), fun q => by rw [n] at q; exact e2 (Option.some.inj q)⟩
  · cases h
theorem Ok.set {i : Nat} (o : Ok B K G H σ Γ) (hs : setOk Γ i = true) (r : Rp K G v d) : Ok B K G H (σ.set i (some v)) (Γ.set i (.ro d)) := by
  obtain ⟨h1, h2⟩ := setOk_lt hs
  refine o.sw (vs := [i]) (by simp [o.len]) (fun j hj => ?_) (fun j hj => ?_) fun j hj => ?_
  · have n : i ≠ j := fun e => hj (by simp [e])
    exact ⟨List.getElem?_set_ne n, List.getElem?_set_ne n⟩
  · have e : j = i := by simpa using hj
    subst e
    have self : (Γ.set j (.ro d))[j]? = some (.ro d) := List.getElem?_set_self h1
    refine ⟨fun b d h => ?_, fun d' h => ?_, fun ns h => ?_⟩
    · rw [self] at h; cases h
    · rw [self] at h
      cases h
      exact ⟨v, List.getElem?_set_self (by rw [o.len]; exact h1), r⟩
    · rw [self] at h; cases h
  · have e : j = i := by simpa using hj
    subst e
    exact h2
theorem wipe_off {i : Nat} : ∀ {vs : List Nat}, i ∉ vs → (L2.wipe σ vs)[i]? = σ[i]?
  | [], _ => rfl
  | v :: vs, h => by
    unfold L2.wipe
    rw [List.getElem?_set_ne (fun e => h (by simp [e]))]
    exact wipe_off (fun z => h (by simp [z]))
theorem wipe_on {i : Nat} : ∀ {vs : List Nat}, i ∈ vs → (L2.wipe σ vs)[i]? = if i < σ.length then some none else none
  | v :: vs, h => by
    unfold L2.wipe
    rw [List.getElem?_set, L2.wipe_length]
    by_cases e : v = i
    · subst e; simp
    · rw [if_neg e]
      exact wipe_on (by
        rcases List.mem_cons.mp h with z | z
        · exact absurd z.symm e
        · exact z)
theorem wipe_ext (hl : σ'.length = σ.length) (h : ∀ i, i ∉ vs → σ'[i]? = σ[i]?) : L2.wipe σ' vs = L2.wipe σ vs := by
  refine List.ext_getElem? fun i => ?_
  by_cases z : i ∈ vs
  · rw [wipe_on z, wipe_on z, hl]
  · rw [wipe_off z, wipe_off z, h i z]
theorem wipeE_off {i : Nat} : ∀ {vs : List Nat}, i ∉ vs → (wipeE Γ vs)[i]? = Γ[i]?
  | [], _ => rfl
  | v :: vs, h => by
    unfold wipeE
    rw [List.getElem?_set_ne (fun e => h (by simp [e]))]
    exact wipeE_off (fun z => h (by simp [z]))
theorem wipeE_length : ∀ {vs : List Nat}, (wipeE Γ vs).length = Γ.length
  | [] => rfl
  | v :: vs => by unfold wipeE; rw [List.length_set, wipeE_length]
theorem wipeE_on {i : Nat} : ∀ {vs : List Nat}, i ∈ vs → (wipeE Γ vs)[i]? = some .no ∨ (wipeE Γ vs)[i]? = none
  | v :: vs, h => by
    unfold wipeE
    rw [List.getElem?_set]
    by_cases e : v = i
    · subst e
      simp only [if_true]
      split
      · exact .inl rfl
      · exact .inr rfl
    · rw [if_neg e]
      exact wipeE_on (by
        rcases List.mem_cons.mp h with z | z
        · exact absurd z.symm e
        · exact z)
theorem notOwn_of {j : Nat} (h : Fd.notOwn Γ j = true) : ∀ b d, Γ[j]? ≠ some (.own b d) := fun b d e => by
  unfold Fd.notOwn at h
  rw [e] at h
  cases h
theorem notPin_of {j : Nat} (h : Fd.notOwn Γ j = true) : Γ[j]? ≠ some .pin := fun e => by
  unfold Fd.notOwn at h
  rw [e] at h
  cases h
/-- into a block -/
theorem Ok.inB (o : Ok B K G H σ Γ) (hn : vs.all (Fd.notOwn Γ) = true) : Ok B K G H (L2.wipe σ vs) (wipeE Γ vs) := by
  refine o.sw (vs := vs) (by rw [L2.wipe_length, wipeE_length]; exact o.len) (fun i hi => ⟨wipe_off hi, wipeE_off hi⟩) (fun i hi => ?_) fun i hi => ⟨fun d => notOwn_of (List.all_eq_true.mp hn i hi) true d, notPin_of (List.all_eq_true.mp hn i hi)⟩
  refine ⟨fun b d h => ?_, fun d h => ?_, fun ns h => ?_⟩ <;> (rcases wipeE_on (Γ := Γ) hi with e | e <;> (rw [e] at h; cases h))
/-! ### targets -/
def tG (B : Bs) (K : Frag) (tg : Tg) : L2.TG := fun v σ H Q => ∃ Γ d Γ' G, Ok B K G H σ Γ ∧ Rp K G v d ∧ setTg Γ d tg = some Γ' ∧ ∀ σ', Ok B K G H σ' Γ' → σ'.length = σ.length → (∀ i, i ∉ tgIx tg → σ'[i]? = σ[i]? ∧ Γ'[i]? = Γ[i]?) → Q σ' H
def tGs (B : Bs) (K : Frag) (is : List Nat) : L2.TGs := fun vs σ H Q => ∃ Γ ds Γ' G, Ok B K G H σ Γ ∧ RpA K G vs ds ∧ setSeq Γ is ds = some Γ' ∧ ∀ σ', Ok B K G H σ' Γ' → σ'.length = σ.length → (∀ i, i ∉ is → σ'[i]? = σ[i]? ∧ Γ'[i]? = Γ[i]?) → Q σ' H
def SG (X : L2.Cx) (B : Bs) (e : Expr) (tg : Tg) : Prop := L2.PG X e (tG B X.K tg)
def SGs (X : L2.Cx) (B : Bs) (es : List Expr) (is : List Nat) : Prop := L2.PGs X es (tGs B X.K is)
theorem pg_imp {e : Expr} {t t' : L2.TG} (h : L2.PG X e t) (i : ∀ v σ H Q, t' v σ H Q → t v σ H Q) : L2.PG X e t' := ⟨fun pins s σ H v u Q I r q => h.run pins s σ H v u Q I r (i v σ H Q q)⟩
theorem pgs_imp {e : List Expr} {t t' : L2.TGs} (h : L2.PGs X e t) (i : ∀ v σ H Q, t' v σ H Q → t v σ H Q) : L2.PGs X e t' := ⟨fun pins s σ H v u Q I r q => h.run pins s σ H v u Q I r (i v σ H Q q)⟩
theorem sg_name {i : Nat} {x : Str} {pos : Pos} (h : L2.PG X (.Name x pos) (L2.gName i)) : SG X B (.Name x pos) (.nm i) := by
  refine pg_imp h fun v σ H Q ⟨Γ, d, Γ', G, o, r, e, q⟩ => ?_
  have e : (if setOk Γ i = true then some (Γ.set i (.ro d)) else none) = some Γ' := e
  split at e
  · rename_i hs
    cases e
    refine q _ (o.set hs r) (by simp) fun j hj => ?_
    have n : i ≠ j := fun e => hj (by simp [tgIx, e])
    exact ⟨List.getElem?_set_ne n, List.getElem?_set_ne n⟩
  · cases e
theorem sgs_nil : SGs X B [] [] := by
  refine pgs_imp L2.pgs_nil fun vs σ H Q ⟨Γ, ds, Γ', G, o, r, e, q⟩ => ?_
  cases ds with
  | cons _ _ => cases e
  | nil =>
    cases e
    cases r
    exact ⟨rfl, q σ o rfl fun i _ => ⟨rfl, rfl⟩⟩
theorem sgs_cons {i : Nat} {is : List Nat} {x : Str} {pos : Pos} {es : List Expr} (h : L2.PG X (.Name x pos) (L2.gName i)) (hr : SGs X B es is)
    (hs : (assignEach (.Name x pos :: es) X.env).map (·.2) = assign (.Name x pos) X.env :: (assignEach es X.env).map (·.2) := by rfl) : SGs X B (.Name x pos :: es) (i :: is) := by
  refine pgs_imp (L2.pgs_cons h hr hs) fun vs σ H Q ⟨Γ, ds, Γ', G, o, r, e, q⟩ => ?_
  cases ds with
  | nil => cases e
  | cons d ds =>
    have e : (if setOk Γ i = true then setSeq (Γ.set i (.ro d)) is ds else none) = some Γ' := e
    split at e
    · rename_i hs
      cases r with
      | cons r rr =>
        refine ⟨_, _, rfl, ?_⟩
        refine ⟨_, ds, Γ', G, o.set hs r, rr, e, fun σ' o' hl he => q σ' o' (hl.trans (by simp)) fun j hj => ?_⟩
        have n : i ≠ j := fun e => hj (by simp [e])
        have m : j ∉ is := fun z => hj (by simp [z])
        obtain ⟨e1, e2⟩ := he j m
        exact ⟨e1.trans (List.getElem?_set_ne n), e2.trans (List.getElem?_set_ne n)⟩
    · cases e
theorem setSeq_len : ∀ {is : List Nat} {ds : List D} {Γ Γ' : Ev}, setSeq Γ is ds = some Γ' → ds.length = is.length
  | [], [], _, _, _ => rfl
  | [], _ :: _, _, _, h => by cases h
  | _ :: _, [], _, _, h => by cases h
  | i :: is, d :: ds, Γ, Γ', h => by
    have e : (if setOk Γ i = true then setSeq (Γ.set i (.ro d)) is ds else none) = some Γ' := h
    split at e
    · simp [setSeq_len e]
    · cases e
theorem sg_tup {es : List Expr} {is : List Nat} {k n : Nat} {pos : Pos} (hc : X.calm = true) (h : SGs X B es is) (hn : (assignEach es X.env).length = n := by rfl) (hl : is.length = n := by rfl) (hst : (assignEach es X.env).findIdx? (·.1) = none := by rfl) : SG X B (.Tuple es k pos) (.tp is) := by
  refine pg_imp (L2.pg_tup hc h hn hst) fun v σ H Q ⟨Γ, d, Γ', G, o, r, e, q⟩ => ?_
  cases r with
  | tup ha r =>
    have e : setSeq Γ is _ = some Γ' := e
    refine ⟨_, _, rfl, ex_t o.sub ha, by rw [r.length, setSeq_len e, hl], Γ, _, Γ', G, o, r, e, q⟩
  | _ => cases e
theorem sg_unl {es : List Expr} {is : List Nat} {k n : Nat} {pos : Pos} (hc : X.calm = true) (h : SGs X B es is) (hn : (assignEach es X.env).length = n := by rfl) (hl : is.length = n := by rfl) (hst : (assignEach es X.env).findIdx? (·.1) = none := by rfl) : SG X B (.Tuple es k pos) (.tl is) := by
  refine pg_imp (L2.pg_unl hc h hn hst) fun v σ H Q ⟨Γ, d, Γ', G, o, r, e, q⟩ => ?_
  cases r with
  | lst ha r =>
    have e : setSeq Γ is _ = some Γ' := e
    refine ⟨_, _, rfl, L2.SqL.of (o.sub _ _ ha), by rw [r.length, setSeq_len e, hl], Γ, _, Γ', G, o, r, e, q⟩
  | _ => cases e
/-! ### what is walked -/
structure ItOk (B : Bs) (K : Frag) (J : L2.It) (k : Kd) (ds : List D) (P : L2.St → Ev → Hp → Hp → Prop) : Prop where
  go : ∀ i σ Γ G H, Ok B K G H σ Γ → P σ Γ G H → i < ds.length → J.go i H
  yld : ∀ i σ Γ G H x H' d, Ok B K G H σ Γ → P σ Γ G H → J.yld i H x H' → ds[i]? = some d → H' = H ∧ Rp K G x d
  stop : ∀ i σ Γ G H, Ok B K G H σ Γ → P σ Γ G H → ds.length ≤ i → J.stop i H
  step : ∀ σ Γ G H δ G' H', keeps δ k = true → Ok B K G' H' σ (apd Γ δ) → Stp σ Γ G H (apd Γ δ) G' H' → P σ Γ G H → P σ (apd Γ δ) G' H'
  ex : (∀ i, k ≠ .al i) → ∀ σ Γ G H σ' Γ' G' H', Ex G G' → P σ Γ G H → P σ' Γ' G' H'
  heap : ∀ σ Γ G H H', P σ Γ G H → P σ Γ G H'
def tI (X : L2.Cx) (W : L2.WX) (B : Bs) (Γ : Ev) (r : R) : L2.TI := fun σ H R => ∃ G, Ok B X.K G H σ Γ ∧ match r with
  | .ok k d δ => ∃ ds, itD d = some ds ∧ ∀ J P G' H', Ok B X.K G' H' σ (apd Γ δ) → Stp σ Γ G H (apd Γ δ) G' H' → ItOk B X.K J k ds P → P σ (apd Γ δ) G' H' → R J H'
  | .ex c δ => ∀ cls dd G' H', Ok B X.K G' H' σ (apd Γ δ) → Stp σ Γ G H (apd Γ δ) G' H' → ExIs X G' H' c cls dd → W cls dd σ H'
def SI (T : Nat → Option Fc) (X : L2.Cx) (W : L2.WX) (B : Bs) (tg e : Expr) (c : E) : Prop := ∀ Γ r, evalE T c Γ = some r → L2.PI X tg e (tI X W B Γ r)
theorem pi_imp {tg e : Expr} {t t' : L2.TI} (h : L2.PI X tg e t) (i : ∀ σ H R, t' σ H R → t σ H R) : L2.PI X tg e t' := ⟨fun pins s σ H R I q => h.run pins s σ H R I (i σ H R q)⟩
theorem it_list {a : Addr} {ds : List D} (hk : k ≠ .fr) : ItOk B K (L2.Itl K a) k ds fun σ Γ G H => Vl B K σ Γ G H k (.list ds) (.ref a) := by
  refine ⟨fun i σ Γ G H o p hi => ?_, fun i σ Γ G H x H' d o p y hd => ?_, fun i σ Γ G H o p hi => ?_, fun σ Γ G H δ G' H' hk o s p => p.step o s hk, fun n σ Γ G H σ' Γ' G' H' e p => ?_, fun σ Γ G H H' p => ?_⟩
  · obtain ⟨b, vs, e, h1, h2⟩ := p.items o
    cases e
    obtain ⟨x, hx, _⟩ := h2.get (List.getElem?_eq_getElem hi)
    exact ⟨vs, x, h1, hx⟩
  · obtain ⟨b, vs, e, h1, h2⟩ := p.items o
    cases e
    obtain ⟨e1, y⟩ := y
    obtain ⟨d', h3, h4⟩ := h2.getV (y vs h1)
    rw [hd] at h3
    cases h3
    exact ⟨e1, h4⟩
  · obtain ⟨b, vs, e, h1, h2⟩ := p.items o
    cases e
    exact ⟨vs, h1, by rw [h2.length]; exact hi⟩
  · cases k with
    | ro => exact Rp.ex e p
    | fr => exact absurd rfl hk
    | al i => exact absurd rfl (n i)
    | sc => obtain ⟨b, ns, h1, h2, h3⟩ := p; exact ⟨b, ns, h1, h2, ex_l e h3⟩
  · cases k with
    | fr => exact absurd rfl hk
    | _ => exact p
theorem it_tup {a : Addr} {ds : List D} : ItOk B K (L2.Itt K a) k ds fun σ Γ G H => Rp K G (.ref a) (.tuple ds) := by
  refine ⟨fun i σ Γ G H o p hi => ?_, fun i σ Γ G H x H' d o p y hd => ?_, fun i σ Γ G H o p hi => ?_, fun σ Γ G H δ G' H' hk o s p => p.ex s.exG, fun n σ Γ G H σ' Γ' G' H' e p => p.ex e, fun _ _ _ _ _ p => p⟩ <;> cases p with | tup h1 h2 => ?_
  · obtain ⟨x, hx, _⟩ := h2.get (List.getElem?_eq_getElem hi)
    exact ⟨_, x, ex_t o.sub h1, hx⟩
  · obtain ⟨e1, y⟩ := y
    obtain ⟨d', h3, h4⟩ := h2.getV (y _ (ex_t o.sub h1))
    rw [hd] at h3
    cases h3
    exact ⟨e1, h4⟩
  · exact ⟨_, ex_t o.sub h1, by rw [h2.length]; exact hi⟩
theorem it_str {x : Str} : ItOk B K (L2.Its x) k (x.cps.toList.map fun c => PyData.str ⟨#[c]⟩) fun _ _ _ _ => True := by
  refine ⟨fun i σ Γ G H o p hi => ?_, fun i σ Γ G H v H' d o p y hd => ?_, fun i σ Γ G H o p hi => ?_, fun σ Γ G H δ G' H' hk o s p => p, fun n σ Γ G H σ' Γ' G' H' e p => p, fun _ _ _ _ _ p => p⟩
  · show i < x.cps.size
    simpa using hi
  · obtain ⟨e1, c, hc, rfl⟩ := y
    refine ⟨e1, ?_⟩
    simp [hc] at hd
    subst hd
    exact .str _
  · show x.cps.size ≤ i
    simpa using hi
theorem it_rng {lo hi : Int} : ItOk B K (L2.Itr lo (hi - lo).toNat) k (rngD lo hi) fun _ _ _ _ => True := by
  refine ⟨fun i σ Γ G H o p h => ?_, fun i σ Γ G H v H' d o p y hd => ?_, fun i σ Γ G H o p h => ?_, fun σ Γ G H δ G' H' hk o s p => p, fun n σ Γ G H σ' Γ' G' H' e p => p, fun _ _ _ _ _ p => p⟩
  · show i < (hi - lo).toNat
    simpa [rngD] using h
  · obtain ⟨e1, rfl⟩ := y
    refine ⟨e1, ?_⟩
    unfold rngD at hd
    simp only [List.getElem?_map, Option.map_eq_some_iff] at hd
    obtain ⟨n, h1, rfl⟩ := hd
    obtain ⟨_, h1⟩ := List.getElem?_eq_some_iff.mp h1
    simp at h1
    subst h1
    exact .int _
  · show (hi - lo).toNat ≤ i
    simpa [rngD] using h
theorem si_of {T : Nat → Option Fc} {tg e : Expr} {c : E} (h : SE T X W B e c) : SI T X W B tg e c := by
  intro Γ r hr
  have hp := h Γ r hr
  cases r with
  | ex c δ => exact pi_imp (L2.pi_list hp) fun σ H R ⟨G, o, q⟩ => ⟨G, o, q⟩
  | ok k d δ =>
    cases d with
    | list ds =>
      refine pi_imp (L2.pi_list hp) fun σ H R ⟨G, o, ds', e, q⟩ => ⟨G, o, fun v G1 H1 o1 s1 w1 n1 => ?_⟩
      cases e
      obtain ⟨a, vs, rfl, h1, _⟩ := w1.items o1
      refine ⟨a, rfl, ⟨vs, h1⟩, ?_⟩
      by_cases hk : k = .fr
      · subst hk
        obtain ⟨G2, o2, s2, r2, _⟩ := w1.freeze o1 s1 n1 rfl
        exact q _ _ G2 H1 o2 s2 ⟨(it_list (k := .ro) (by intro z; cases z)).go, (it_list (k := .ro) (by intro z; cases z)).yld, (it_list (k := .ro) (by intro z; cases z)).stop, fun σ Γ G H δ G' H' hk o s p => (it_list (k := .ro) (by intro z; cases z)).step σ Γ G H δ G' H' rfl o s p, fun n => (it_list (k := .ro) (by intro z; cases z)).ex (by intro i z; cases z), (it_list (k := .ro) (by intro z; cases z)).heap⟩ r2
      · exact q _ _ G1 H1 o1 s1 (it_list hk) w1
    | tuple ds =>
      refine pi_imp (L2.pi_tup hp) fun σ H R ⟨G, o, ds', e, q⟩ => ⟨G, o, fun v G1 H1 o1 s1 w1 n1 => ?_⟩
      cases e
      obtain ⟨a, vs, rfl, h1, r1⟩ := w1.itemsT o1
      have r2 := w1.flat o1 rfl
      exact ⟨a, rfl, ⟨vs, h1⟩, q _ _ G1 H1 o1 s1 it_tup r2⟩
    | str x =>
      refine pi_imp (L2.pi_str hp) fun σ H R ⟨G, o, ds', e, q⟩ => ⟨G, o, fun v G1 H1 o1 s1 w1 n1 => ?_⟩
      cases e
      exact ⟨x, w1.str o1, q _ _ G1 H1 o1 s1 it_str trivial⟩
    | _ => exact pi_imp (L2.pi_list pe_no) fun σ H R ⟨G, o, ds', e, q⟩ => by cases e
theorem evalA_one {T : Nat → Option Fc} {c : E} (h : evalE T c Γ = some (.ok k d δ)) : evalA T (fun _ => .bo) (.cons c .nil) Γ = some (.ok [(k, d)] δ) := by
  unfold evalA
  rw [h]
  simp only [pass, evalA, List.append_nil]
  rw [if_pos (by cases k <;> rfl)]
theorem evalA_oneX {T : Nat → Option Fc} {c : E} {x : Exn} (h : evalE T c Γ = some (.ex x δ)) : evalA T (fun _ => .bo) (.cons c .nil) Γ = some (.ex x δ) := by
  unfold evalA
  rw [h]
theorem okR_of {n : Int} (h : okR n = true) : -(2 ^ 62) ≤ n ∧ n < 2 ^ 62 := by
  unfold okR at h
  rw [Bool.and_eq_true, decide_eq_true_eq, decide_eq_true_eq] at h
  exact h
theorem si_rng1 {T : Nat → Option Fc} {tg a : Expr} {c : E} {p pos : Pos} (hg : L2.Gl X "range") (hm : X.mg "range" = none) (h : SE T X W B a c) (hs1 : starEach [a] X.env = (false, eval a X.env) :: starEach [] X.env := by rfl) (hs : starEach [a] X.env = [(false, eval a X.env)] := by rfl) :
    SI T X W B tg (.Call (.Name "range" p) [a] [] pos) (.rng1 c) := by
  intro Γ r hr
  have sa := sa_cons h (sa_nil (T := T) (X := X) (W := W) (B := B)) hs1
  unfold evalE at hr
  rcases thn_some hr with ⟨c', δ, h1, rfl⟩ | ⟨k1, d1, δ1, r', h1, h2, rfl⟩
  · refine pi_imp (L2.pi_range1 hg hm (sa _ _ _ (evalA_oneX h1)) hs) fun σ H R ⟨G, o, q⟩ => ?_
    exact ⟨G, o, q⟩
  · cases d1 with
    | int n =>
      simp only at h2
      split at h2
      · rename_i hn
        cases h2
        obtain ⟨n1, n2⟩ := okR_of hn
        refine pi_imp (L2.pi_range1 hg hm (sa _ _ _ (evalA_one h1)) hs) fun σ H R ⟨G, o, ds, e, q⟩ => ?_
        cases e
        refine ⟨G, o, fun vs G1 H1 o1 s1 w1 => ?_⟩
        obtain ⟨v, rfl, w2⟩ := vls1 w1
        refine ⟨n, by rw [w2.int o1], n1, n2, ?_⟩
        rw [List.append_nil] at q
        have hz := q (L2.Itr 0 (n - 0).toNat) (fun _ _ _ _ => True) G1 H1 o1 s1 it_rng trivial
        rw [Int.sub_zero] at hz
        exact hz
      · cases h2
    | _ => cases h2
theorem evalA_two {T : Nat → Option Fc} {c e : E} {l : Kd} {d' : D} {δ' : Dl} (h : evalE T c Γ = some (.ok k d δ)) (h' : evalE T e (apd Γ δ) = some (.ok l d' δ')) (hk : keeps δ' k = true) : evalA T (fun _ => .bo) (.cons c (.cons e .nil)) Γ = some (.ok [(k, d), (l, d')] (δ ++ δ')) := by
  unfold evalA
  rw [h]
  simp only [pass, List.append_nil]
  rw [evalA_one h']
  simp only [hk, if_true]
theorem evalA_twoX {T : Nat → Option Fc} {c e : E} {x : Exn} {δ' : Dl} (h : evalE T c Γ = some (.ok k d δ)) (h' : evalE T e (apd Γ δ) = some (.ex x δ')) : evalA T (fun _ => .bo) (.cons c (.cons e .nil)) Γ = some (.ex x (δ ++ δ')) := by
  unfold evalA
  rw [h]
  simp only [pass, List.append_nil]
  rw [evalA_oneX h']
theorem evalA_oneX' {T : Nat → Option Fc} {c : E} {cs : Es} {x : Exn} (h : evalE T c Γ = some (.ex x δ)) : evalA T (fun _ => .bo) (.cons c cs) Γ = some (.ex x δ) := by
  unfold evalA
  rw [h]
theorem si_rng2 {T : Nat → Option Fc} {tg a b : Expr} {c e : E} {p pos : Pos} (hg : L2.Gl X "range") (hm : X.mg "range" = none) (h : SE T X W B a c) (h' : SE T X W B b e) (hs1 : starEach [a, b] X.env = (false, eval a X.env) :: starEach [b] X.env := by rfl) (hs2 : starEach [b] X.env = (false, eval b X.env) :: starEach [] X.env := by rfl)
    (hs : starEach [a, b] X.env = [(false, eval a X.env), (false, eval b X.env)] := by rfl) (hs3 : starEach [b] X.env = [(false, eval b X.env)] := by rfl) :
    SI T X W B tg (.Call (.Name "range" p) [a, b] [] pos) (.rng2 c e) := by
  intro Γ r hr
  have sa := sa_cons h (sa_cons h' (sa_nil (T := T) (X := X) (W := W) (B := B)) hs2) hs1
  unfold evalE at hr
  rcases thn_some hr with ⟨c', δ, h1, rfl⟩ | ⟨k1, d1, δ1, r', h1, h2, rfl⟩
  · exact pi_imp (L2.pi_range2 hg hm (sa _ _ _ (evalA_oneX' h1)) hs hs3) fun σ H R ⟨G, o, q⟩ => ⟨G, o, q⟩
  · rcases thn_some h2 with ⟨c', δ, h3, rfl⟩ | ⟨k2, d2, δ2, r'', h3, h4, rfl⟩
    · exact pi_imp (L2.pi_range2 hg hm (sa _ _ _ (evalA_twoX h1 h3)) hs hs3) fun σ H R ⟨G, o, q⟩ => ⟨G, o, q⟩
    · cases d1 with
      | int n =>
        cases d2 with
        | int m =>
          simp only at h4
          split at h4
          · rename_i hn
            cases h4
            rw [Bool.and_eq_true, Bool.and_eq_true] at hn
            obtain ⟨n1, n2⟩ := okR_of hn.1.1
            obtain ⟨m1, m2⟩ := okR_of hn.1.2
            have hk := hn.2
            refine pi_imp (L2.pi_range2 hg hm (sa _ _ _ (evalA_two h1 h3 hk)) hs hs3) fun σ H R ⟨G, o, ds, e, q⟩ => ?_
            cases e
            refine ⟨G, o, fun vs G1 H1 o1 s1 w1 => ?_⟩
            obtain ⟨v, w, rfl, w2, w3⟩ := vls2 w1
            refine ⟨n, m, by rw [w2.int o1, w3.int o1], ⟨n1, n2, m1, m2⟩, ?_⟩
            rw [List.append_nil] at q
            exact q (L2.Itr n (m - n).toNat) (fun _ _ _ _ => True) G1 H1 o1 s1 it_rng trivial
          · cases h4
        | _ => cases h4
      | _ => cases d2 <;> cases h4
end
end Fd
end
section
set_option maxRecDepth 100000
set_option maxHeartbeats 2000000
namespace Fd
open PySem
def tDu (T : Nat → Option Fc) (X : L2.Cx) (W : L2.WX) (B : Bs) (c : E) : L2.TE := fun σ H Q => ∃ Γ r, evalE T c Γ = some r ∧ tD X W B Γ r σ H Q
def tTu (T : Nat → Option Fc) (X : L2.Cx) (W : L2.WX) (B : Bs) (c : E) : L2.TT := fun σ H Q => ∃ Γ r, evalE T c Γ = some r ∧ hasT r = true ∧ tT X W B Γ r σ H Q
def SPTs (T : Nat → Option Fc) (X : L2.Cx) (W : L2.WX) (B : Bs) (ifs : List Expr) (c : E) : Prop := L2.PTs X ifs (tTu T X W B c)
def Wf : L2.WX := fun _ _ _ _ => False
def lcF (T : Nat → Option Fc) (elt : E) (own : List Nat) (tg : Tg) (cond : E) (Γ : Ev) (d : D) : Option (List D × Dl) :=
  if own.all (Fd.notOwn Γ) then match setTg (wipeE Γ own) d tg with
    | some Γ1 => match evalE T cond Γ1 with
      | some (.ok _ dc δc) => match truD dc with
        | some true => match evalE T elt (apd Γ1 δc) with
          | some (.ok k d δ) => if fzOk (apd (apd Γ1 δc) δ) k && own.all (fun j => !hit (δc ++ (δ ++ fz d k)) j) then some ([d], δc ++ (δ ++ fz d k)) else none
          | _ => none
        | some false => if own.all (fun j => !hit δc j) then some ([], δc) else none
        | none => none
      | _ => none
    | none => none
  else none
theorem eval_lc {T : Nat → Option Fc} {elt it cond : E} {own : List Nat} {tg : Tg} {Γ : Ev} : evalE T (.lc elt own tg it cond) Γ = R.thn (evalE T it Γ) fun k1 d1 δ1 =>
      match itD d1 with
      | some ds => if ds.length ≤ sizeLine ∧ (tgIx tg).all (fun j => own.contains j) = true then
          (lcL (lcF T elt own tg cond) k1 ds (apd Γ δ1)).map fun p => .ok .fr (.list p.1) p.2
        else none
      | none => none := by
  rw [evalE]
  rfl
section
variable {T : Nat → Option Fc} {X : L2.Cx} {W : L2.WX} {B : Bs} {K : Frag} {G G' H H' : Hp} {σ σ' : L2.St} {Γ Γ' Γ2 Γ2' : Ev} {k : Kd} {d : D} {v : V} {r : R} {Q : L2.VK} {δ : Dl} {vs : List Nat}
theorem pe_u {e : Expr} {c : E} (h : SE T X W B e c) : L2.PE X e (tDu T X W B c) := ⟨fun pins s σ H Q I ⟨Γ, r, hr, q⟩ => (h Γ r hr).run pins s σ H Q I q⟩
theorem pt_u {e : Expr} {c : E} (h : ST T X W B e c) : L2.PT X e (tTu T X W B c) := ⟨fun pins s σ H Q I ⟨Γ, r, hr, ht, q⟩ => (h Γ r hr ht).run pins s σ H Q I q⟩
theorem spts_nil : SPTs T X W B [] (.con (.bool true)) := by
  refine ⟨fun pins s σ H Q I ⟨Γ, r, hr, ht, G, o, q⟩ => (L2.pts_nil (X := X)).run pins s σ H Q I ?_⟩
  have hr : some (R.ok .ro (.bool true) []) = some r := hr
  cases hr
  exact PsT.fin q o rfl
theorem spts_one {e : Expr} {c : E} (h : ST T X W B e c) : SPTs T X W B [e] c := L2.pts_one (pt_u h)
theorem Ok.updF {p : Addr} {ob : L2.HO} {zs : List V} (o : Ok B K G H σ Γ) (hg : G p = none) (hn : ¬ OwnA Γ σ p) (h0 : B.H0 p = none) (hl : H p = some (.lst zs)) : Ok B K G (L2.upd H p ob) σ Γ := by
  have ne : ∀ a u, G a = some u → a ≠ p := fun a u h z => by rw [z, hg] at h; cases h
  refine ⟨fun a u h => by rw [L2.upd_ne (ne a u h)]; exact o.sub a u h, o.ro, fun i b d h => ?_, o.inj, o.exG, fun a u h n => ?_, o.thin, o.scr, o.par, o.len, o.pin, fun a fs h => ?_⟩
  · obtain ⟨q, h1, h2, h3, h4⟩ := o.own i b d h
    have n : q ≠ p := fun z => hn (z ▸ ⟨i, b, d, h, h1⟩)
    exact ⟨q, h1, h2, h3.move (Ex.refl G) (L2.upd_ne n), h4⟩
  · have n' : a ≠ p := fun z => by rw [z, h0] at h; cases h
    rw [L2.upd_ne n']
    exact o.keep a u h n
  · have z := o.kp a fs h
    have n : a ≠ p := fun y => by rw [y, hl] at z; cases z
    rw [L2.upd_ne n]
    exact z
theorem Stp.updF {p : Addr} {ob : L2.HO} (s : Stp σ Γ G H Γ' G' H') (hp : H p = none) : Stp σ Γ G H Γ' G' (L2.upd H' p ob) := by
  have ne : ∀ a u, H a = some u → a ≠ p := fun a u h z => by rw [z, hp] at h; cases h
  exact ⟨s.exG, fun a u h n => by rw [L2.upd_ne (ne a u h)]; exact s.keep a u h n, s.thin, fun a u h => by rw [L2.upd_ne (ne a u h)]; exact s.dom a u h, s.less⟩
theorem setSeq_ro : ∀ {is : List Nat} {ds : List D} {Γ Γ' : Ev}, setSeq Γ is ds = some Γ' → (∀ i, (i ∈ is ∨ ((∀ b d, Γ[i]? ≠ some (.own b d)) ∧ Γ[i]? ≠ some .pin)) → (∀ b d, Γ'[i]? ≠ some (.own b d)) ∧ Γ'[i]? ≠ some .pin)
  | [], [], Γ, Γ', h, i, hi => by
    cases h
    rcases hi with hi | hi
    · cases hi
    · exact hi
  | [], _ :: _, _, _, h, _, _ => by cases h
  | _ :: _, [], _, _, h, _, _ => by cases h
  | j :: is, d :: ds, Γ, Γ', h, i, hi => by
    have e : (if setOk Γ j = true then setSeq (Γ.set j (.ro d)) is ds else none) = some Γ' := h
    split at e
    · rename_i hs
      refine setSeq_ro e i ?_
      by_cases z : i = j
      · subst z
        have self : (Γ.set i (.ro d))[i]? = some (.ro d) := List.getElem?_set_self (setOk_lt hs).1
        exact .inr ⟨fun b d' q => (by rw [self] at q; cases q), fun q => (by rw [self] at q; cases q)⟩
      · rcases hi with hi | hi
        · rcases List.mem_cons.mp hi with y | y
          · exact absurd y z
          · exact .inl y
        · have o : (Γ.set j (.ro d))[i]? = Γ[i]? := List.getElem?_set_ne (Ne.symm z)
          exact .inr (by rw [o]; exact hi)
    · cases e
theorem setTg_ro {tg : Tg} (h : setTg Γ d tg = some Γ') {i : Nat} (hi : i ∈ tgIx tg ∨ ((∀ b d, Γ[i]? ≠ some (.own b d)) ∧ Γ[i]? ≠ some .pin)) : (∀ b d, Γ'[i]? ≠ some (.own b d)) ∧ Γ'[i]? ≠ some .pin := by
  cases tg with
  | nm j => exact setSeq_ro (is := [j]) (ds := [d]) (Γ := Γ) (by exact h) i hi
  | tp is =>
    cases d with
    | tuple ds => exact setSeq_ro (is := is) h i hi
    | _ => cases h
  | tl is =>
    cases d with
    | list ds => exact setSeq_ro (is := is) h i hi
    | _ => cases h
theorem blk_back {σ2 : L2.St} {Γt : Ev} (o : Ok B K G H σ Γ) (hn : vs.all (Fd.notOwn Γ) = true) (hl : Γt.length = Γ.length) (he : ∀ i, i ∉ vs → σ2[i]? = σ[i]? ∧ Γt[i]? = Γ[i]?) (hv : ∀ i, i ∈ vs → (∀ b d, Γt[i]? ≠ some (.own b d)) ∧ Γt[i]? ≠ some .pin)
    (hm : vs.all (fun j => !hit δ j) = true) (o2 : Ok B K G' H' σ2 (apd Γt δ)) (s2 : Stp σ2 Γt G H (apd Γt δ) G' H') : Ok B K G' H' σ (apd Γ δ) ∧ Stp σ Γ G H (apd Γ δ) G' H' := by
  have miss : ∀ i, i ∈ vs → (apd Γ δ)[i]? = Γ[i]? ∧ (apd Γt δ)[i]? = Γt[i]? := fun i hi => by
    have z : hit δ i = false := by simpa using List.all_eq_true.mp hm i hi
    exact ⟨apd_miss z, apd_miss z⟩
  have nO : ∀ i, i ∈ vs → ∀ b d, Γ[i]? ≠ some (.own b d) := fun i hi => notOwn_of (List.all_eq_true.mp hn i hi)
  have ag : ∀ i, i ∉ vs → (apd Γt δ)[i]? = (apd Γ δ)[i]? := apd_agree hl fun i hi => (he i hi).2
  refine ⟨o2.sw (vs := vs) (by rw [apd_length]; exact o.len) (fun i hi => ⟨(he i hi).1.symm, (ag i hi).symm⟩) (fun i hi => ⟨?_, ?_, ?_⟩) fun i hi => ⟨fun d h => (hv i hi).1 true d ((miss i hi).2.symm.trans h), fun h => (hv i hi).2 ((miss i hi).2.symm.trans h)⟩, s2.sw (ownA_sw (vs := vs) (fun i hi => he i hi) fun i hi => (hv i hi).1) (ownA_sw (vs := vs) (fun i hi => ⟨(he i hi).1.symm, (ag i hi).symm⟩) fun i hi b d h => nO i hi b d ((miss i hi).1.symm.trans h))⟩
  · intro b d h
    exact nO i hi b d ((miss i hi).1.symm.trans h)
  · intro d h
    obtain ⟨v, h1, h2⟩ := o.ro i d ((miss i hi).1.symm.trans h)
    exact ⟨v, h1, h2.ex s2.exG⟩
  · intro ns h
    obtain ⟨a, h1, h2⟩ := o.scr i ns ((miss i hi).1.symm.trans h)
    exact ⟨a, h1, ex_l s2.exG h2⟩
end
end Fd
end
section
set_option maxRecDepth 100000
set_option maxHeartbeats 2000000
namespace Fd
open PySem
section
variable {T : Nat → Option Fc} {X : L2.Cx} {W : L2.WX} {B : Bs} {G G' H H' : Hp} {σ σ' : L2.St} {Γ Γ' Γ1 : Ev} {k : Kd} {d : D} {v : V} {r : R} {Q : L2.VK} {δ : Dl} {vs : List Nat}
/-- one turn -/
theorem lc_turn {elt cond : E} {tg : Tg} {o : List D} {G1 H1 : Hp} {DD : Addr} {acc : List V} {os : List D} {x : V} {Nx : Hp → Prop} (hsub : (tgIx tg).all (fun j => vs.contains j) = true) (h : lcF T elt vs tg cond Γ d = some (o, δ)) (hD1 : H1 DD = none) (hg1 : G1 DD = none)
    (hno : ¬ OwnA Γ σ DD) (h0 : B.H0 DD = none) (ok : Ok B X.K G H σ Γ) (s0 : Stp σ Γ1 G1 H1 Γ G H) (hD : H DD = some (.lst acc)) (hG : G DD = none) (racc : RpA X.K G acc os) (hz : acc.length < sizeLine) (rx : Rp X.K G x d)
    (nx : ∀ G' H' acc' ob, Ok B X.K G' H' σ (apd Γ δ) → Stp σ Γ G H (apd Γ δ) G' H' → G' DD = none → ob = L2.HO.lst acc' → RpA X.K G' acc' (os ++ o) → (L2.upd H' DD ob = H' ∨ True) → H' DD = some (.lst acc) → Nx (if o.isEmpty then H' else L2.upd H' DD ob)) :
    tG B X.K tg x (L2.wipe σ vs) H fun σ2 H2 => L2.wipe σ2 vs = L2.wipe σ vs ∧ tTu T X Wf B cond σ2 H2 fun b H3 => if b = true then tDu T X Wf B elt σ2 H3 fun y H4 => ∃ acc', H4 DD = some (.lst acc') ∧ acc'.length < sizeLine ∧ Nx (L2.upd H4 DD (.lst (acc' ++ [y]))) else Nx H3 := by
  unfold lcF at h
  split at h
  · rename_i hn
    split at h
    · rename_i Γt ht
      split at h
      · rename_i kc dc δc hc
        have hvs : ∀ i, i ∉ vs → i ∉ tgIx tg := fun i hi z => hi (by simpa using List.all_eq_true.mp hsub i z)
        refine ⟨wipeE Γ vs, d, Γt, G, ok.inB hn, rx, ht, fun σ2 o2 hl he => ?_⟩
        have e2 : ∀ i, i ∉ vs → σ2[i]? = σ[i]? ∧ Γt[i]? = Γ[i]? := fun i hi => ⟨(he i (hvs i hi)).1.trans (wipe_off hi), (he i (hvs i hi)).2.trans (wipeE_off hi)⟩
        have hl2 : σ2.length = σ.length := hl.trans (L2.wipe_length _ _)
        have hlt : Γt.length = Γ.length := by rw [← o2.len, hl2, ok.len]
        have hv : ∀ i, i ∈ vs → (∀ b d, Γt[i]? ≠ some (.own b d)) ∧ Γt[i]? ≠ some .pin := fun i hi => by
          refine setTg_ro ht (.inr ⟨fun b d' q => ?_, fun q => ?_⟩) <;> (rcases wipeE_on (Γ := Γ) hi with e | e <;> (rw [e] at q; cases q))
        refine ⟨wipe_ext hl2 fun i hi => (e2 i hi).1, Γt, _, hc, ?_, G, o2, fun b G3 H3 eb o3 s3 => ?_⟩
        · split at h <;> first | (rename_i e; show (truD dc).isSome = true; rw [e]; rfl) | cases h
        · rw [eb] at h
          cases b with
          | false =>
            simp only [Bool.false_eq_true, if_false] at h ⊢
            split at h
            · rename_i hm
              cases h
              obtain ⟨o4, s4⟩ := blk_back ok hn hlt e2 hv hm o3 s3
              have z1 := s4.keep _ _ hD hno
              exact nx G3 H3 acc _ o4 s4 (s4.thin _ _ hD hG hno) rfl (by rw [List.append_nil]; exact racc.ex s4.exG) (.inr trivial) z1
            · cases h
          | true =>
            simp only [if_true] at h ⊢
            split at h
            · rename_i kk dd δe hel
              split at h
              · rename_i hm
                cases h
                rw [Bool.and_eq_true] at hm
                obtain ⟨hfz, hm⟩ := hm
                refine ⟨_, _, hel, G3, o3, fun y G4 H4 o4 s4 w4 n4 => ?_⟩
                have hnew : kk = .fr → ∀ p, y = .ref p → H p = none := fun e p ep => by
                  have z := n4 e p ep
                  cases q : H p with
                  | none => rfl
                  | some u =>
                    obtain ⟨u', h'⟩ := s3.dom p u q
                    rw [z] at h'
                    cases h'
                obtain ⟨G5, o5, s5, r5, x5⟩ := w4.freeze o4 (s3.trans s4) hnew hfz
                rw [← apd_append, ← apd_append] at o5 s5
                obtain ⟨o6, s6⟩ := blk_back ok hn hlt e2 hv hm o5 s5
                have z1 := s6.keep _ _ hD hno
                refine ⟨acc, z1, hz, ?_⟩
                exact nx G5 H4 (acc ++ [y]) _ o6 s6 (s6.thin _ _ hD hG hno) rfl ((racc.ex s6.exG).append (.cons r5 .nil)) (.inr trivial) z1
              · cases h
            · cases h
      · cases h
    · cases h
  · cases h
theorem lcF_len {elt cond : E} {tg : Tg} {o : List D} (h : lcF T elt vs tg cond Γ d = some (o, δ)) : o.length ≤ 1 := by
  unfold lcF at h
  split at h
  · split at h
    · split at h
      · split at h
        · split at h
          · split at h
            · cases h; simp
            · cases h
          · cases h
        · split at h
          · cases h; simp
          · cases h
        · cases h
      · cases h
    · cases h
  · cases h
theorem drop_cons {ds : List D} {i : Nat} (h : i < ds.length) : ds.drop i = ds[i] :: ds.drop (i + 1) := by rw [List.drop_eq_getElem_cons h]
/-- a list comprehension, as it is read -/
theorem lc_read {elt it cond : E} {tg : Tg} {r1 : R} (h : evalE T (.lc elt vs tg it cond) Γ = some r) (h1 : evalE T it Γ = some r1) (q : tD X W B Γ r σ H Q) : L2.tLc (tI X W B Γ r1) (tG B X.K tg) (tTu T X Wf B cond) (tDu T X Wf B elt) vs σ H Q := by
  obtain ⟨G, o, q⟩ := q
  rw [eval_lc] at h
  rcases thn_some h with ⟨c, δ, h2, rfl⟩ | ⟨k1, d1, δ1, r', h2, h3, rfl⟩
  · rw [h1] at h2
    cases h2
    exact ⟨G, o, q⟩
  · rw [h1] at h2
    cases h2
    split at h3
    · rename_i ds hds
      split at h3
      · rename_i hc
        obtain ⟨hlen, hsub⟩ := hc
        obtain ⟨⟨oT, δT⟩, h4, rfl⟩ := Option.map_eq_some_iff.mp h3
        refine ⟨G, o, ds, hds, fun J P G1 H1 o1 s1 ji p1 => fun DD hDD => ?_⟩
        have q1 := Pst.pre q s1
        have h0 := o1.h0 hDD
        have hno1 := o1.notOwn hDD
        have hg1 : G1 DD = none := o1.sub.back hDD
        refine ⟨fun i m H2 => m = ds.length - i ∧ i ≤ ds.length ∧ ∃ Γi os G2 oR δR acc, Ok B X.K G2 H2 σ Γi ∧ Stp σ (apd Γ δ1) G1 H1 Γi G2 H2 ∧ P σ Γi G2 H2 ∧ H2 DD = some (.lst acc) ∧ RpA X.K G2 acc os ∧ G2 DD = none ∧ os.length ≤ i ∧
          lcL (lcF T elt vs tg cond) k1 (ds.drop i) Γi = some (oR, δR) ∧ os ++ oR = oT ∧ apd Γi δR = apd (apd Γ δ1) δT, ⟨ds.length, rfl, Nat.zero_le _, apd Γ δ1, [], G1, oT, δT, [], o1.new hDD, Stp.new o1 hDD, ji.heap _ _ _ _ _ p1, L2.upd_same, .nil, hg1, Nat.le_refl _, by simpa using h4, rfl, rfl⟩, ?_⟩
        rintro i m H2 ⟨rfl, hi, Γi, os, G2, oR, δR, acc, o2, s2, p2, hD2, ra2, hg2, hos, hl, e1, e2⟩
        have hno2 : ¬ OwnA Γi σ DD := fun z => hno1 (s2.less _ z)
        by_cases hlt : i < ds.length
        · refine .inr ⟨ji.go i σ Γi G2 H2 o2 p2 hlt, ?_⟩
          rw [drop_cons hlt] at hl
          unfold lcL at hl
          split at hl
          · rename_i oo δo hf
            split at hl
            · rename_i hk
              split at hl
              · rename_i r3 δ3 hl3
                cases hl
                refine ⟨fun H' => ∃ os' G3 acc', Ok B X.K G3 H' σ (apd Γi δo) ∧ Stp σ (apd Γ δ1) G1 H1 (apd Γi δo) G3 H' ∧ P σ (apd Γi δo) G3 H' ∧ H' DD = some (.lst acc') ∧ RpA X.K G3 acc' os' ∧ G3 DD = none ∧ os' = os ++ oo, ?_, ?_⟩
                · rintro H' ⟨os', G3, acc', a1, a2, a3, a4, a5, a6, rfl⟩
                  have := lcF_len hf
                  exact ⟨ds.length - (i + 1), by omega, rfl, hlt, _, _, G3, _, _, acc', a1, a2, a3, a4, a5, a6, by rw [List.length_append]; omega, hl3, by rw [List.append_assoc]; exact e1, by rw [← apd_append]; exact e2⟩
                · intro x H3 y
                  obtain ⟨rfl, rx⟩ := ji.yld i σ Γi G2 H2 x H3 _ o2 p2 y (List.getElem?_eq_getElem hlt)
                  refine lc_turn hsub hf hDD hg1 hno2 h0 o2 s2 hD2 hg2 ra2 (by rw [ra2.length]; omega) rx fun G3 H3 acc' ob a1 a2 a3 a4 a5 _ a6 => ?_
                  have p3 := ji.step _ _ _ _ _ _ _ hk a1 a2 p2
                  have hno3 : ¬ OwnA (apd Γi δo) σ DD := fun z => hno2 (a2.less _ z)
                  subst a4
                  cases hoo : oo with
                  | nil =>
                    subst hoo
                    rw [List.append_nil] at a5 ⊢
                    simp only [List.isEmpty_nil, if_true]
                    exact ⟨os, G3, acc, a1, s2.trans a2, p3, a6, ra2.ex a2.exG, a3, rfl⟩
                  | cons _ _ =>
                    rw [← hoo]
                    have hne : oo.isEmpty = false := by rw [hoo]; rfl
                    simp only [hne, Bool.false_eq_true, if_false]
                    exact ⟨_, G3, acc', a1.updF a3 hno3 h0 a6, (s2.trans a2).updF hDD, ji.heap _ _ _ _ _ p3, L2.upd_same, a5, a3, rfl⟩
              · cases hl
            · cases hl
          · cases hl
        · have ei : i = ds.length := by omega
          subst ei
          refine .inl ⟨ji.stop _ σ Γi G2 H2 o2 p2 (Nat.le_refl _), ?_⟩
          rw [List.drop_length] at hl
          cases hl
          rw [List.append_nil] at e1
          subst e1
          have e2 : Γi = apd (apd Γ δ1) δT := e2
          subst e2
          refine q1 (.ref DD) G2 H2 o2 s2 ⟨DD, rfl, hg2, ⟨acc, hD2, ra2⟩, hno2, h0⟩ fun _ p e => ?_
          cases e
          exact hDD
      · cases h3
    · cases h3
theorem lc_it {elt it cond : E} {tg : Tg} (h : evalE T (.lc elt vs tg it cond) Γ = some r) : ∃ r1, evalE T it Γ = some r1 := by
  rw [eval_lc] at h
  rcases thn_some h with ⟨c, δ, h2, _⟩ | ⟨k1, d1, δ1, r', h2, _, _⟩ <;> exact ⟨_, h2⟩
theorem se_lc {elt tg iter : Expr} {ifs : List Expr} {scope : Scope} {own : List (Str × Nat)} {pos : Pos} {ce ci cc : E} {tgc : Tg} (hc : X.calm = true) (hN : X.N.Nodup) (hi : SI T X W B tg iter ci) (ok : L2.BlkOk X.N X.env.scope scope own)
    (hg : ∀ (s : Shared) (H : Hp) (C : Addr) (cl : List (Str × Addr)) (fp : List Addr), SG (X.blk s H scope (compEnvC scope cl C X.env) fp) B tg tgc)
    (ht : ∀ (s : Shared) (H : Hp) (C : Addr) (cl : List (Str × Addr)) (fp : List Addr), SPTs T (X.blk s H scope (compEnvC scope cl C X.env) fp) Wf B ifs cc)
    (he : ∀ (s : Shared) (H : Hp) (C : Addr) (cl : List (Str × Addr)) (fp : List Addr), SE T (X.blk s H scope (compEnvC scope cl C X.env) fp) Wf B elt ce) (hs : ∀ x, foldedSetIterable iter X.env x = pure x := by intro _; rfl) :
    SE T X W B (.ListComp elt [⟨tg, iter, ifs, 0⟩] scope pos) (.lc ce (own.map (·.2)) tgc ci cc) := by
  intro Γ r h
  obtain ⟨r1, h1⟩ := lc_it h
  exact pe_imp (L2.pe_lc (g := tG B X.K tgc) (tt := tTu T X Wf B cc) (te := tDu T X Wf B ce) hc hN (hi Γ r1 h1) ok (fun s H C cl fp => hg s H C cl fp) (fun s H C cl fp => ht s H C cl fp) (fun s H C cl fp => pe_u (he s H C cl fp)) hs) fun σ H Q q => lc_read h h1 q
end
end Fd
end
section
set_option maxRecDepth 100000
set_option maxHeartbeats 2000000
namespace Fd
open PySem
mutual
inductive S where
  | pass
  | asg (tg : Tg) (e : E)
  | par (i j : Nat) (es : Es)
  | aug (i : Nat) (op : Operator) (e : E)
  | sub (i : Nat) (j e : E)
  | ret (e : E)
  | retN
  | exp (e : E)
  | ite (c : E) (a b : Ss)
  | for_ (tg : Tg) (it : E) (b : Ss)
  | whl (n : Nat) (c : E) (b : Ss)
  | brk
  | cont
  | raise (c : Str)
  | raiseP (c f : Str) (e : E)
  | tryA (b : Ss) (tb : List (Str × Bool)) (i : Nat) (h : Exn → Ss)
  | never
inductive Ss where
  | nil
  | cons (s : S) (r : Ss)
end
inductive O where
  | nx (Γ : Ev)
  | bk (Γ : Ev)
  | ct (Γ : Ev)
  | rt (fresh : Bool) (d : D) (Γ : Ev)
  | ex (c : Exn) (Γ : Ev)
def putV (Γ : Ev) (i : Nat) (k : Kd) (d : D) : Option Ev :=
  if setOk Γ i then match k with
    | .ro => some (Γ.set i (.ro d))
    | .fr => some (Γ.set i (.own false d))
    | .al j => if fzOk Γ (.al j) && i != j then some ((Γ.set j (.ro d)).set i (.ro d)) else none
    | .sc => match d with
      | .list ds => (intsD ds).map fun ns => Γ.set i (.scr ns)
      | _ => none
  else none
def asgV (Γ : Ev) (k : Kd) (d : D) : Tg → Option Ev
  | .nm i => putV Γ i k d
  | tg => if fzOk Γ k then setTg (apd Γ (fz d k)) d tg else none
def augD (op : Operator) (a b : D) : Option D :=
  match op, a, b with
  | .Add, .int i, .int j => some (.int (i + j))
  | .Sub, .int i, .int j => some (.int (i - j))
  | .Mult, .int i, .int j => if small i || small j then some (.int (i * j)) else none
  | .Add, .str x, .str y => if x.length + y.length ≤ sizeLine then some (.str (x ++ y)) else none
  | _, _, _ => none
def fzZ (Γ : Ev) : Kd → Bool
  | .sc => true
  | k => fzOk Γ k
def retV (Γ : Ev) (k : Kd) (d : D) : Option O :=
  match k with
  | .ro => some (.rt false d Γ)
  | .fr => some (.rt true d Γ)
  | .al i => if fzOk Γ (.al i) then some (.rt true d (Γ.set i .no)) else none
  | .sc => none
/-- go on behind an expression -/
def O.thn (Γ : Ev) (r : Option R) (f : Kd → D → Ev → Option O) : Option O :=
  match r with
  | some (.ok k d δ) => f k d (apd Γ δ)
  | some (.ex c δ) => some (.ex c (apd Γ δ))
  | none => none
def whL (c : Ev → Option R) (b : Ev → Option O) : Nat → Ev → Option O
  | 0, _ => none
  | n + 1, Γ => match c Γ with
    | some (.ok _ d δ) => match truD d with
      | some true => match b (apd Γ δ) with
        | some (.nx Γ') => whL c b n Γ'
        | some (.ct Γ') => whL c b n Γ'
        | some (.bk Γ') => some (.nx Γ')
        | some (.rt f d Γ') => some (.rt f d Γ')
        | some (.ex c Γ') => some (.ex c Γ')
        | none => none
      | some false => some (.nx (apd Γ δ))
      | none => none
    | some (.ex x δ) => some (.ex x (apd Γ δ))
    | none => none
def foL (tg : Tg) (b : Ev → Option O) : List D → Ev → Option O
  | [], Γ => some (.nx Γ)
  | d :: ds, Γ => match setTg Γ d tg with
    | some Γ1 => match b Γ1 with
      | some (.nx Γ') => foL tg b ds Γ'
      | some (.ct Γ') => foL tg b ds Γ'
      | some (.bk Γ') => some (.nx Γ')
      | some (.rt f d Γ') => some (.rt f d Γ')
      | some (.ex c Γ') => some (.ex c Γ')
      | none => none
    | none => none
mutual
def evalS (T : Nat → Option Fc) : S → Ev → Option O
  | .pass, Γ => some (.nx Γ)
  | .asg tg e, Γ => O.thn Γ (evalE T e Γ) fun k d Γ1 => (asgV Γ1 k d tg).map .nx
  | .par i j es, Γ => match evalA T (fun _ => .fz) es Γ with
    | some (.ok kds δ) => match kds with
      | [(_, d), (_, e)] => if setOk (apd Γ δ) i && setOk (apd Γ δ) j then some (.nx (((apd Γ δ).set i (.ro d)).set j (.ro e))) else none
      | _ => none
    | some (.ex c δ) => some (.ex c (apd Γ δ))
    | none => none
  | .aug i op e, Γ => match Γ[i]? with
    | some (.ro a) => O.thn Γ (evalE T e Γ) fun _ d Γ1 => if setOk Γ1 i then (augD op a d).map fun z => .nx (Γ1.set i (.ro z)) else none
    | _ => none
  | .sub i j e, Γ => O.thn Γ (evalE T e Γ) fun k d Γ1 => if fzOk Γ1 k then match (apd Γ1 (fz d k))[i]? with
      | some (.own _ _) => O.thn (apd Γ1 (fz d k)) (evalE T j (apd Γ1 (fz d k))) fun _ dj Γ2 => match Γ2[i]?, dj with
        | some (.own b (.list ds)), .int n => (L2.ixN ds.length n).map fun at_ => .nx (Γ2.set i (.own b (.list (ds.set at_ d))))
        | some (.own b (.dict kv)), _ => if kv.length < sizeLine then (keyD dj).map fun ky => .nx (Γ2.set i (.own b (.dict (putD ky d kv)))) else none
        | _, _ => none
      | _ => none
    else none
  | .ret e, Γ => O.thn Γ (evalE T e Γ) fun k d Γ1 => retV Γ1 k d
  | .retN, Γ => some (.rt false .none Γ)
  | .exp e, Γ => O.thn Γ (evalE T e Γ) fun _ _ Γ1 => some (.nx Γ1)
  | .ite c a b, Γ => O.thn Γ (evalE T c Γ) fun _ d Γ1 => match truD d with
    | some true => evalSs T a Γ1
    | some false => evalSs T b Γ1
    | none => none
  | .for_ tg it b, Γ => O.thn Γ (evalE T it Γ) fun k d Γ1 => match itD d with
    | some ds => if fzZ Γ1 k then foL tg (fun Γ => evalSs T b Γ) ds (apd Γ1 (fz d k)) else none
    | none => none
  | .whl n c b, Γ => whL (evalE T c) (fun Γ => evalSs T b Γ) n Γ
  | .brk, Γ => some (.bk Γ)
  | .cont, Γ => some (.ct Γ)
  | .raise c, Γ => some (.ex ⟨c, none⟩ Γ)
  | .raiseP c f e, Γ => O.thn Γ (evalE T e Γ) fun k d Γ1 => match k with
    | .ro => some (.ex ⟨c, some (f, d)⟩ Γ1)
    | _ => none
  | .tryA b tb i h, Γ => match evalSs T b Γ with
    | some (.ex x Γ1) => match tb.lookup x.cls with
      | some true => if Fd.notOwn Γ1 i && i < Γ1.length then match evalSs T (h x) (Γ1.set i .pin) with
        | some (.nx Γ2) => some (.nx (Γ2.set i .no))
        | some (.ct Γ2) => some (.ct (Γ2.set i .no))
        | some (.bk Γ2) => some (.bk (Γ2.set i .no))
        | some (.rt f d Γ2) => some (.rt f d (Γ2.set i .no))
        | _ => none
        else none
      | some false => some (.ex x Γ1)
      | none => none
    | o => o
  | .never, _ => none
def evalSs (T : Nat → Option Fc) : Ss → Ev → Option O
  | .nil, Γ => some (.nx Γ)
  | .cons s r, Γ => match evalS T s Γ with
    | some (.nx Γ1) => evalSs T r Γ1
    | o => o
end
end Fd
end
section
set_option maxRecDepth 100000
set_option maxHeartbeats 2000000
namespace Fd
open PySem PyProof.Rows
def RtV (B : Bs) (K : Frag) (G H : Hp) (fresh : Bool) (d : D) (v : V) : Prop :=
  if fresh = true then ∃ p, v = .ref p ∧ G p = none ∧ OwnR K G H p d ∧ B.H0 p = none else Rp K G v d
def PsS (X : L2.Cx) (W : L2.WX) (B : Bs) (G : Hp) (o : O) (D : L2.Ends) : Prop :=
  match o with
  | .nx Γ' => ∀ σ' G' H', Ok B X.K G' H' σ' Γ' → Ex G G' → D.nx σ' H'
  | .bk Γ' => ∀ σ' G' H', Ok B X.K G' H' σ' Γ' → Ex G G' → D.bk σ' H'
  | .ct Γ' => ∀ σ' G' H', Ok B X.K G' H' σ' Γ' → Ex G G' → D.ct σ' H'
  | .rt f d Γ' => ∀ v σ' G' H', Ok B X.K G' H' σ' Γ' → Ex G G' → RtV B X.K G' H' f d v → D.rt v H'
  | .ex c Γ' => ∀ cls dd σ' G' H', Ok B X.K G' H' σ' Γ' → Ex G G' → ExIs X G' H' c cls dd → W cls dd σ' H'
def tSu (X : L2.Cx) (W : L2.WX) (B : Bs) (run : Ev → Option O) : L2.TS := fun D σ H => ∃ Γ o G, run Γ = some o ∧ Ok B X.K G H σ Γ ∧ PsS X W B G o D
def SS (T : Nat → Option Fc) (X : L2.Cx) (W : L2.WX) (B : Bs) (st : Stmt) (c : S) : Prop := L2.PS X st (tSu X W B (evalS T c))
def SSs (T : Nat → Option Fc) (X : L2.Cx) (W : L2.WX) (B : Bs) (st : List Stmt) (c : Ss) : Prop := L2.PSs X st (tSu X W B (evalSs T c))
theorem ps_imp {X : L2.Cx} {e : Stmt} {t t' : L2.TS} (h : L2.PS X e t) (i : ∀ D σ H, t' D σ H → t D σ H) : L2.PS X e t' := ⟨fun pins s σ H D I q => h.run pins s σ H D I (i D σ H q)⟩
theorem pss_imp {X : L2.Cx} {e : List Stmt} {t t' : L2.TS} (h : L2.PSs X e t) (i : ∀ D σ H, t' D σ H → t D σ H) : L2.PSs X e t' := ⟨fun pins s σ H D I q => h.run pins s σ H D I (i D σ H q)⟩
section
variable {T : Nat → Option Fc} {X : L2.Cx} {W : L2.WX} {B : Bs} {K : Frag} {G G' H H' : Hp} {σ σ' : L2.St} {Γ Γ' : Ev} {k : Kd} {d : D} {v : V} {r : R} {Q : L2.VK} {δ : Dl} {D : L2.Ends} {o : O} {pos : Pos}
theorem PsS.mono (h : PsS X W B G o D) (e : Ex G G') : PsS X W B G' o D := by
  cases o with
  | nx Γ' => exact fun σ' G2 H2 o2 e2 => h σ' G2 H2 o2 (e.trans e2)
  | bk Γ' => exact fun σ' G2 H2 o2 e2 => h σ' G2 H2 o2 (e.trans e2)
  | ct Γ' => exact fun σ' G2 H2 o2 e2 => h σ' G2 H2 o2 (e.trans e2)
  | rt f d Γ' => exact fun v σ' G2 H2 o2 e2 => h v σ' G2 H2 o2 (e.trans e2)
  | ex c Γ' => exact fun cls dd σ' G2 H2 o2 e2 => h cls dd σ' G2 H2 o2 (e.trans e2)
theorem othn {f : Kd → Fd.D → Ev → Option O} {r : Option R} (h : O.thn Γ r f = some o) : (∃ c δ, r = some (.ex c δ) ∧ o = .ex c (apd Γ δ)) ∨ ∃ k d δ, r = some (.ok k d δ) ∧ f k d (apd Γ δ) = some o := by
  unfold O.thn at h
  split at h
  · exact .inr ⟨_, _, _, rfl, h⟩
  · exact .inl ⟨_, _, rfl, (Option.some.inj h).symm⟩
  · cases h
/-- an expression, then the rest of the statement -/
theorem thnS {c : E} {f : Kd → Fd.D → Ev → Option O} (h : O.thn Γ (evalE T c Γ) f = some o) (ok : Ok B X.K G H σ Γ) (q : PsS X W B G o D)
    (g : ∀ k d δ v G' H', evalE T c Γ = some (.ok k d δ) → f k d (apd Γ δ) = some o → Ok B X.K G' H' σ (apd Γ δ) → Stp σ Γ G H (apd Γ δ) G' H' → Vl B X.K σ (apd Γ δ) G' H' k d v → (k = .fr → ∀ p, v = .ref p → H p = none) → PsS X W B G' o D → Q v H') : tDu T X W B c σ H Q := by
  rcases othn h with ⟨x, δ, h1, rfl⟩ | ⟨k, d, δ, h1, h2⟩
  · exact ⟨Γ, _, h1, G, ok, fun cls dd G' H' o' s' x' => q cls dd σ G' H' o' s'.exG x'⟩
  · exact ⟨Γ, _, h1, G, ok, fun v G' H' o' s' w' n' => g k d δ v G' H' h1 h2 o' s' w' n' (q.mono s'.exG)⟩
theorem thnT {c : E} {f : Kd → Fd.D → Ev → Option O} {Q : Bool → Hp → Prop} (h : O.thn Γ (evalE T c Γ) f = some o) (hf : ∀ k d Γ o, f k d Γ = some o → (truD d).isSome = true) (ok : Ok B X.K G H σ Γ) (q : PsS X W B G o D)
    (g : ∀ k d δ b G' H', evalE T c Γ = some (.ok k d δ) → truD d = some b → f k d (apd Γ δ) = some o → Ok B X.K G' H' σ (apd Γ δ) → Stp σ Γ G H (apd Γ δ) G' H' → PsS X W B G' o D → Q b H') : tTu T X W B c σ H Q := by
  rcases othn h with ⟨x, δ, h1, rfl⟩ | ⟨k, d, δ, h1, h2⟩
  · exact ⟨Γ, _, h1, rfl, G, ok, fun cls dd G' H' o' s' x' => q cls dd σ G' H' o' s'.exG x'⟩
  · exact ⟨Γ, _, h1, hf _ _ _ _ h2, G, ok, fun b G' H' e o' s' => g k d δ b G' H' h1 e h2 o' s' (q.mono s'.exG)⟩
/-! ### one statement -/
theorem ss_pass : SS T X W B (.Pass pos) .pass := ps_imp L2.ps_pass fun D σ H ⟨Γ, o, G, h, ok, q⟩ => by cases h; exact q σ G H ok (Ex.refl _)
theorem ss_doc {x : Str} {j : Nat} {pos' : Pos} : SS T X W B (.Expr (.Constant (.str x) j pos) pos') .pass := ps_imp L2.ps_doc fun D σ H ⟨Γ, o, G, h, ok, q⟩ => by cases h; exact q σ G H ok (Ex.refl _)
theorem ss_brk : SS T X W B (.Break pos) .brk := ps_imp L2.ps_break fun D σ H ⟨Γ, o, G, h, ok, q⟩ => by cases h; exact q σ G H ok (Ex.refl _)
theorem ss_cont : SS T X W B (.Continue pos) .cont := ps_imp L2.ps_continue fun D σ H ⟨Γ, o, G, h, ok, q⟩ => by cases h; exact q σ G H ok (Ex.refl _)
theorem ss_never {st : Stmt} : SS T X W B st .never := ps_imp L2.ps_never fun D σ H ⟨Γ, o, G, h, ok, q⟩ => by cases h
theorem ss_exp {e : Expr} {c : E} (h : SE T X W B e c) (hs : swapsWith e none pos.line X.env = pure false := by rfl) : SS T X W B (.Expr e pos) (.exp c) :=
  ps_imp (L2.ps_expr (pe_u h) hs) fun D σ H ⟨Γ, o, G, h, ok, q⟩ => by
    unfold evalS at h
    exact thnS h ok q fun k d δ v G' H' _ h2 o' s' w' _ q' => by cases h2; exact q' σ G' H' o' (Ex.refl _)
theorem ss_retN : SS T X W B (.Return none pos) .retN := ps_imp L2.ps_retN fun D σ H ⟨Γ, o, G, h, ok, q⟩ => by cases h; exact q .non σ G H ok (Ex.refl _) .non
theorem fzOk_al {i : Nat} (h : fzOk Γ (.al i) = true) : ∃ d, Γ[i]? = some (.own false d) := by
  unfold fzOk at h
  simp only at h
  split at h
  · rename_i b d e
    cases b with
    | true => cases h
    | false => exact ⟨d, e⟩
  · cases h
/-- a name is forgotten -/
theorem Ok.drop {i : Nat} {d : Fd.D} (ok : Ok B K G H σ Γ) (hi : Γ[i]? = some (.own false d)) : Ok B K G H σ (Γ.set i .no) := by
  have hlt := (List.getElem?_eq_some_iff.mp hi).1
  have self : (Γ.set i .no)[i]? = some .no := List.getElem?_set_self hlt
  refine ok.sw (vs := [i]) (by simp [ok.len]) (fun j hj => ⟨rfl, List.getElem?_set_ne fun e => hj (by simp [e])⟩) (fun j hj => ?_) fun j hj => ?_
  · have e : j = i := by simpa using hj
    subst e
    refine ⟨fun b d h => ?_, fun d' h => ?_, fun ns h => ?_⟩ <;> (rw [self] at h; cases h)
  · have e : j = i := by simpa using hj
    subst e
    rw [hi]
    exact ⟨fun d z => (nomatch (Slot.own.inj (Option.some.inj z)).1), fun z => nomatch z⟩
theorem ss_ret {e : Expr} {c : E} (h : SE T X W B e c) : SS T X W B (.Return (some e) pos) (.ret c) :=
  ps_imp (L2.ps_ret (pe_u h)) fun D σ H ⟨Γ, o, G, h, ok, q⟩ => by
    unfold evalS at h
    refine thnS h ok q fun k d δ v G' H' _ h2 o' s' w' _ q' => ?_
    unfold retV at h2
    cases k with
    | ro => cases h2; exact q' v σ G' H' o' (Ex.refl _) w'
    | fr =>
      cases h2
      obtain ⟨p, rfl, g, r, n, z⟩ := w'
      exact q' _ σ G' H' o' (Ex.refl _) ⟨p, rfl, g, r, z⟩
    | sc => cases h2
    | al i =>
      simp only at h2
      split at h2
      · rename_i hz
        cases h2
        obtain ⟨d0, hi⟩ := fzOk_al hz
        obtain ⟨⟨b, hi'⟩, hv⟩ := w'
        rw [hi] at hi'
        cases hi'
        obtain ⟨p, e1, e2, e3, _, e4⟩ := o'.own i _ _ hi
        rw [hv] at e1
        cases e1
        exact q' _ σ G' H' (o'.drop hi) (Ex.refl _) ⟨p, rfl, e2, e3, e4 rfl⟩
      · cases h2
theorem ss_ite {c : Expr} {cc : E} {a b : List Stmt} {ca cb : Ss} (hc : ST T X W B c cc) (ha : SSs T X W B a ca) (hb : SSs T X W B b cb) : SS T X W B (.If c a b pos) (.ite cc ca cb) :=
  ps_imp (L2.ps_if (pt_u hc) ha hb) fun D σ H ⟨Γ, o, G, h, ok, q⟩ => by
    unfold evalS at h
    refine thnT h (fun k d Γ o h => ?_) ok q fun k d δ b G' H' _ e h2 o' s' q' => ?_
    · revert h
      cases truD d <;> simp
    rw [e] at h2
    cases b with
    | true => exact L2.iteT ⟨_, _, G', h2, o', q'⟩
    | false => exact L2.iteF ⟨_, _, G', h2, o', q'⟩
theorem ss_whl {n : Nat} {c : Expr} {cc : E} {b : List Stmt} {cb : Ss} (hp : PassesOwn (model X.prog X.w) X.A X.env X.xe) (hc : ST T X W B c cc) (hb : SSs T X W B b cb) : SS T X W B (.While c b [] pos) (.whl n cc cb) :=
  ps_imp (L2.ps_while hp (pt_u hc) hb) fun D σ H ⟨Γ, o, G, h, ok, q⟩ => by
    refine ⟨fun m σ H => ∃ Γ G2, Ok B X.K G2 H σ Γ ∧ Ex G G2 ∧ whL (evalE T cc) (fun Γ => evalSs T cb Γ) m Γ = some o, ⟨n, Γ, G, ok, Ex.refl _, h⟩, ?_⟩
    rintro m σ H ⟨Γ, G2, ok, ex, h⟩
    cases m with
    | zero => cases h
    | succ m =>
      unfold whL at h
      have q2 := q.mono ex
      split at h
      · rename_i k d δ h1
        have ht : hasT (.ok k d δ) = true := by
          show (truD d).isSome = true
          revert h
          cases truD d <;> simp
        refine ⟨Γ, _, h1, ht, G2, ok, fun b G3 H3 e o3 s3 => ?_⟩
        rw [e] at h
        cases b with
        | false =>
          cases h
          exact L2.iteF (q2 σ G3 H3 o3 s3.exG)
        | true =>
          refine L2.iteT ⟨fun σ H => ∃ Γ G2, Ok B X.K G2 H σ Γ ∧ Ex G G2 ∧ whL (evalE T cc) (fun Γ => evalSs T cb Γ) m Γ = some o, fun σ' H' w => ⟨m, Nat.lt_succ_self m, w⟩, ?_⟩
          simp only at h
          have ex3 := ex.trans s3.exG
          have q3 := q.mono ex3
          split at h <;> first | (cases h; done) | skip
          · rename_i Γ' h4
            exact ⟨_, _, G3, h4, o3, fun σ' G' H' o' e' => ⟨Γ', G', o', ex3.trans e', h⟩⟩
          · rename_i Γ' h4
            exact ⟨_, _, G3, h4, o3, fun σ' G' H' o' e' => ⟨Γ', G', o', ex3.trans e', h⟩⟩
          · rename_i Γ' h4
            cases h
            exact ⟨_, _, G3, h4, o3, fun σ' G' H' o' e' => q3 σ' G' H' o' e'⟩
          · rename_i f d Γ' h4
            cases h
            exact ⟨_, _, G3, h4, o3, fun v σ' G' H' o' e' r' => q3 v σ' G' H' o' e' r'⟩
          · rename_i c Γ' h4
            cases h
            exact ⟨_, _, G3, h4, o3, fun cls dd σ' G' H' o' e' r' => q3 cls dd σ' G' H' o' e' r'⟩
      · rename_i x δ h1
        cases h
        exact ⟨Γ, _, h1, rfl, G2, ok, fun cls dd G' H' o' s' x' => q2 cls dd σ G' H' o' s'.exG x'⟩
      · cases h
/-! ### many -/
theorem sss_nil : SSs T X W B [] .nil := pss_imp L2.pss_nil fun D σ H ⟨Γ, o, G, h, ok, q⟩ => by cases h; exact q σ G H ok (Ex.refl _)
theorem sss_cons {st : Stmt} {sts : List Stmt} {c : S} {cs : Ss} (h1 : SS T X W B st c) (h2 : SSs T X W B sts cs) : SSs T X W B (st :: sts) (.cons c cs) :=
  pss_imp (L2.pss_cons h1 h2) fun D σ H ⟨Γ, o, G, h, ok, q⟩ => by
    unfold evalSs at h
    split at h
    · rename_i Γ1 h3
      exact ⟨Γ, _, G, h3, ok, fun σ' G' H' o' e' => ⟨Γ1, o, G', h, o', q.mono e'⟩⟩
    · rename_i h3
      refine ⟨Γ, o, G, h, ok, ?_⟩
      cases o with
      | nx Γ' => exact absurd h (h3 Γ')
      | bk Γ' => exact q
      | ct Γ' => exact q
      | rt f d Γ' => exact q
      | ex c Γ' => exact q
end
end Fd
end
section
set_option maxRecDepth 100000
set_option maxHeartbeats 2000000
namespace Fd
open PySem PyProof.Rows
section
variable {T : Nat → Option Fc} {X : L2.Cx} {W : L2.WX} {B : Bs} {K : Frag} {G G' H H' : Hp} {σ σ' : L2.St} {Γ Γ' : Ev} {k : Kd} {d : Fd.D} {v : V} {r : R} {Q : L2.VK} {δ : Dl} {D : L2.Ends} {o : O} {pos : Pos}
/-! ### dicts -/
theorem keyB_kD (a b : L2.Key) : keyB (kD a) b = decide (a = b) := by
  cases a <;> cases b <;> simp [kD, keyB]
  rename_i x y
  by_cases h : x = y <;> simp [h]
theorem RpK.any : ∀ {kvs : List (L2.Key × V)} {ds : List (Fd.D × Fd.D)} (ky : L2.Key), RpK K G kvs ds → (ds.any fun p => keyB p.1 ky) = kvs.any fun kv => decide (kv.1 = ky)
  | _, _, _, .nil => rfl
  | _, _, ky, .cons h r => by rw [List.any_cons, List.any_cons, RpK.any ky r, keyB_kD]
theorem RpK.map {ky : L2.Key} (hv : Rp K G v d) : ∀ {kvs : List (L2.Key × V)} {ds : List (Fd.D × Fd.D)}, RpK K G kvs ds → RpK K G (kvs.map fun kv => if kv.1 = ky then (kv.1, v) else kv) (ds.map fun p => if keyB p.1 ky = true then (p.1, d) else p)
  | _, _, .nil => .nil
  | _, _, .cons (k := k) h r => by
    rw [List.map_cons, List.map_cons]
    simp only [keyB_kD, decide_eq_true_eq]
    by_cases e : k = ky
    · rw [if_pos e, if_pos e]
      exact .cons hv (RpK.map hv r)
    · rw [if_neg e, if_neg e]
      exact .cons h (RpK.map hv r)
theorem RpK.app : ∀ {kvs ks : List (L2.Key × V)} {ds es : List (Fd.D × Fd.D)}, RpK K G kvs ds → RpK K G ks es → RpK K G (kvs ++ ks) (ds ++ es)
  | _, _, _, _, .nil, s => s
  | _, _, _, _, .cons h r, s => .cons h (RpK.app r s)
theorem RpK.put {ky : L2.Key} {kvs : List (L2.Key × V)} {ds : List (Fd.D × Fd.D)} (h : RpK K G kvs ds) (hv : Rp K G v d) : RpK K G (L2.putK kvs ky v) (putD ky d ds) := by
  unfold L2.putK putD
  rw [h.any]
  split
  · exact h.map hv
  · exact h.app (.cons hv .nil)
theorem RpK.length : ∀ {kvs : List (L2.Key × V)} {ds : List (Fd.D × Fd.D)}, RpK K G kvs ds → kvs.length = ds.length
  | _, _, .nil => rfl
  | _, _, .cons _ r => by simp [RpK.length r]
theorem RpK.look : ∀ {kvs : List (L2.Key × V)} {ds : List (Fd.D × Fd.D)} {ky : L2.Key}, RpK K G kvs ds → lookD ky ds = some d → ∃ v, L2.valV kvs ky = some v ∧ Rp K G v d
  | _, _, _, .nil, h => by cases h
  | _, _, ky, .cons (k := k) (v := v) h r, e => by
    unfold lookD at e
    rw [keyB_kD] at e
    by_cases z : k = ky
    · simp only [z, decide_true, if_true] at e
      cases e
      exact ⟨v, L2.valV_pos z, h⟩
    · simp only [z, decide_false, Bool.false_eq_true, if_false] at e
      obtain ⟨w, h1, h2⟩ := RpK.look r e
      exact ⟨w, by rw [L2.valV_neg z]; exact h1, h2⟩
theorem keyD_of {ky : L2.Key} (h : keyD d = some ky) : d = kD ky := by
  cases d <;> first | (cases h; rfl) | cases h
theorem Rp.key {ky : L2.Key} (h : Rp K G v (kD ky)) : v = L2.kV ky := by
  cases ky with
  | inl i => exact h.int_inv
  | inr x => exact h.str_inv
/-! ### a name is written -/
theorem Ok.setOwn {i : Nat} {p : Addr} (ok : Ok B K G H σ Γ) (hs : setOk Γ i = true) (hg : G p = none) (r : OwnR K G H p d) (hn : ¬ OwnA Γ σ p) (h0 : B.H0 p = none) : Ok B K G H (σ.set i (some (.ref p))) (Γ.set i (.own false d)) := by
  obtain ⟨hlt, hnt⟩ := setOk_lt hs
  have hlt' : i < σ.length := by rw [ok.len]; exact hlt
  have self : (Γ.set i (.own false d))[i]? = some (.own false d) := List.getElem?_set_self hlt
  have selfσ : (σ.set i (some (.ref p)))[i]? = some (some (.ref p)) := List.getElem?_set_self hlt'
  have other : ∀ j, j ≠ i → (Γ.set i (.own false d))[j]? = Γ[j]? := fun j n => List.getElem?_set_ne (Ne.symm n)
  have otherσ : ∀ j, j ≠ i → (σ.set i (some (.ref p)))[j]? = σ[j]? := fun j n => List.getElem?_set_ne (Ne.symm n)
  refine ⟨ok.sub, fun j e h => ?_, fun j b e h => ?_, fun j l b c e f q h1 h2 h3 h4 => ?_, ok.exG, ok.keep, ok.thin, fun j ns h => ?_, fun j q hq => ?_, by simp [ok.len], fun j a hq => ?_, ok.kp⟩
  · by_cases z : j = i
    · subst z; rw [self] at h; cases h
    · rw [other j z] at h; rw [otherσ j z]; exact ok.ro j e h
  · by_cases z : j = i
    · subst z
      rw [self] at h
      cases h
      exact ⟨p, selfσ, hg, r, fun z => (nomatch z), fun _ => h0⟩
    · rw [other j z] at h; rw [otherσ j z]; exact ok.own j b e h
  · by_cases z : j = i
    · by_cases y : l = i
      · rw [z, y]
      · subst z
        rw [selfσ] at h3
        cases h3
        rw [other l y] at h2
        rw [otherσ l y] at h4
        exact absurd ⟨l, c, f, h2, h4⟩ hn
    · by_cases y : l = i
      · subst y
        rw [selfσ] at h4
        cases h4
        rw [other j z] at h1
        rw [otherσ j z] at h3
        exact absurd ⟨j, b, e, h1, h3⟩ hn
      · rw [other j z] at h1
        rw [otherσ j z] at h3
        rw [other l y] at h2
        rw [otherσ l y] at h4
        exact ok.inj j l b c e f q h1 h2 h3 h4
  · by_cases z : j = i
    · subst z; rw [self] at h; cases h
    · rw [other j z] at h; rw [otherσ j z]; exact ok.scr j ns h
  · obtain ⟨h1, e, h2⟩ := ok.par j q hq
    have z : j ≠ i := fun z => hnt.1 e (z ▸ h2)
    exact ⟨(otherσ j z).trans h1, e, (other j z).trans h2⟩
  · obtain ⟨h1, h2⟩ := ok.pin j a hq
    have z : j ≠ i := fun z => hnt.2 (z ▸ h2)
    exact ⟨(otherσ j z).trans h1, (other j z).trans h2⟩
theorem freeze0 (ok : Ok B K G H σ Γ) (hz : fzOk Γ k = true) (h : Vl B K σ Γ G H k d v) : ∃ G', Ok B K G' H σ (apd Γ (fz d k)) ∧ Rp K G' v d ∧ Ex G G' := by
  have s0 : Stp σ Γ (fun _ => none) (fun _ => none) Γ G H := ⟨fun _ _ h => (nomatch h), fun _ _ h => (nomatch h), fun _ _ h => (nomatch h), fun _ _ h => (nomatch h), fun _ h => h⟩
  obtain ⟨G', o', _, r', e'⟩ := h.freeze ok s0 (fun _ _ _ => rfl) hz
  exact ⟨G', o', r', e'⟩
theorem intD_inj {a b : List Int} (h : a.map PyData.int = b.map PyData.int) : a = b := by
  induction a generalizing b with
  | nil => cases b with | nil => rfl | cons _ _ => cases h
  | cons x xs ih =>
    cases b with
    | nil => cases h
    | cons y ys =>
      simp only [List.map_cons, List.cons.injEq, PyData.int.injEq] at h
      rw [h.1, ih h.2]
theorem put_ok {i : Nat} (h : putV Γ i k d = some Γ') (ok : Ok B K G H σ Γ) (w : Vl B K σ Γ G H k d v) : ∃ G', Ok B K G' H (σ.set i (some v)) Γ' ∧ Ex G G' := by
  unfold putV at h
  split at h
  · rename_i hs
    cases k with
    | ro => cases h; exact ⟨G, ok.set hs w, Ex.refl _⟩
    | fr =>
      cases h
      obtain ⟨p, rfl, g, r, n, z⟩ := w
      exact ⟨G, ok.setOwn hs g r n z, Ex.refl _⟩
    | al j =>
      simp only at h
      split at h
      · rename_i hz
        cases h
        rw [Bool.and_eq_true] at hz
        obtain ⟨hz, hij⟩ := hz
        obtain ⟨G', o', r', e'⟩ := freeze0 ok hz w
        have hij : i ≠ j := by simpa using hij
        have hs' : setOk (apd Γ (fz d (.al j))) i = true := by
          have e : (apd Γ (fz d (.al j)))[i]? = Γ[i]? := List.getElem?_set_ne (Ne.symm hij)
          unfold setOk
          rw [e]
          exact hs
        exact ⟨G', o'.set hs' r', e'⟩
      · cases h
    | sc =>
      simp only at h
      split at h
      · rename_i ds
        obtain ⟨ns, h1, rfl⟩ := Option.map_eq_some_iff.mp h
        obtain ⟨a, ms, rfl, e, hq⟩ := w
        rw [ints_of h1] at e
        have e2 := intD_inj (PyData.list.inj e)
        subst e2
        obtain ⟨h1, h2⟩ := setOk_lt hs
        refine ⟨G, ok.sw (vs := [i]) (by simp [ok.len]) (fun j hj => ?_) (fun j hj => ?_) fun j hj => ?_, Ex.refl _⟩
        · have n : i ≠ j := fun e => hj (by simp [e])
          exact ⟨List.getElem?_set_ne n, List.getElem?_set_ne n⟩
        · have e : j = i := by simpa using hj
          subst e
          have self : (Γ.set j (.scr ns))[j]? = some (.scr ns) := List.getElem?_set_self h1
          refine ⟨fun b d h => ?_, fun d' h => ?_, fun ns h => ?_⟩
          · rw [self] at h; cases h
          · rw [self] at h; cases h
          · rw [self] at h
            cases h
            exact ⟨a, List.getElem?_set_self (by rw [ok.len]; exact h1), hq⟩
        · have e : j = i := by simpa using hj
          subst e
          exact h2
      · cases h
  · cases h
theorem ss_set {i : Nat} {x : Str} {e : Expr} {c : E} {pos' : Pos} (hN : X.N.Nodup) (hi : X.N[i]? = some x) (hx : L2.Loc X.env.scope x) (he : SE T X W B e c) (hs : swapsWith e (some (.Name x pos')) pos.line X.env = pure false := by rfl)
    (hf : X.fn x = true ∨ X.env.scope.names.lookup x = some .local := by first | exact .inl rfl | exact .inr rfl | assumption) : SS T X W B (.Assign [.Name x pos'] e pos) (.asg (.nm i) c) :=
  ps_imp (L2.ps_set hN hi hx (pe_u he) hs hf) fun D σ H ⟨Γ, o, G, h, ok, q⟩ => by
    unfold evalS at h
    refine thnS h ok q fun k d δ v G' H' _ h2 o' s' w' _ q' => ?_
    obtain ⟨Γ2, h3, rfl⟩ := Option.map_eq_some_iff.mp h2
    obtain ⟨G2, o2, e2⟩ := put_ok h3 o' w'
    exact q' _ G2 H' o2 e2
theorem ss_asgT {tg e : Expr} {t : Tg} {c : E} (ht : ∀ i, t ≠ .nm i) (he : SE T X W B e c) (hg : SG X B tg t) (hs : swapsWithSole [tg] e pos.line X.env = pure false := by rfl) (hw : swappedStores [tg] e X.env = pure none := by rfl)
    (h1 : (assignEach [tg] X.env).map (·.2) = [assign tg X.env] := by rfl) : SS T X W B (.Assign [tg] e pos) (.asg t c) :=
  ps_imp (L2.ps_asg (pe_u he) hg hs hw h1) fun D σ H ⟨Γ, o, G, h, ok, q⟩ => by
    unfold evalS at h
    refine thnS h ok q fun k d δ v G' H' _ h2 o' s' w' _ q' => ?_
    obtain ⟨Γ2, h3, rfl⟩ := Option.map_eq_some_iff.mp h2
    have e3 : asgV (apd Γ δ) k d t = if fzOk (apd Γ δ) k then setTg (apd (apd Γ δ) (fz d k)) d t else none := by
      cases t with
      | nm i => exact absurd rfl (ht i)
      | _ => rfl
    rw [e3] at h3
    split at h3
    · rename_i hz
      obtain ⟨G2, o2, r2, e2⟩ := freeze0 o' hz w'
      exact ⟨_, d, Γ2, G2, o2, r2, h3, fun σ' o3 _ _ => q' σ' G2 H' o3 e2⟩
    · cases h3
def tIu (T : Nat → Option Fc) (X : L2.Cx) (W : L2.WX) (B : Bs) (c : E) : L2.TI := fun σ H R => ∃ Γ r, evalE T c Γ = some r ∧ tI X W B Γ r σ H R
theorem pi_u {tg e : Expr} {c : E} (h : SI T X W B tg e c) : L2.PI X tg e (tIu T X W B c) := ⟨fun pins s σ H R I ⟨Γ, r, hr, q⟩ => (h Γ r hr).run pins s σ H R I q⟩
/-- name = [..] -/
theorem ss_setLc {i : Nat} {y : Str} {py : Pos} {elt tg iter : Expr} {ifs : List Expr} {scope : Scope} {own : List (Str × Nat)} {pos spos : Pos} {ce ci cc : E} {tgc : Tg} (hc : X.calm = true) (hN : X.N.Nodup) (hy : X.N[i]? = some y) (hyl : X.env.scope.names.lookup y = some .local)
    (hsw : swapsWith (.ListComp elt [⟨tg, iter, ifs, 0⟩] scope pos) (some (.Name y py)) spos.line X.env = pure true) (hi : SI T X W B tg iter ci) (ok : L2.BlkOk X.N X.env.scope scope own)
    (hg : ∀ (s : Shared) (H : Hp) (C : Addr) (cl : List (Str × Addr)) (fp : List Addr), SG (X.blk s H scope (compEnvC scope cl C X.env) fp) B tg tgc)
    (ht : ∀ (s : Shared) (H : Hp) (C : Addr) (cl : List (Str × Addr)) (fp : List Addr), SPTs T (X.blk s H scope (compEnvC scope cl C X.env) fp) Wf B ifs cc)
    (he : ∀ (s : Shared) (H : Hp) (C : Addr) (cl : List (Str × Addr)) (fp : List Addr), SE T (X.blk s H scope (compEnvC scope cl C X.env) fp) Wf B elt ce) (hs : ∀ x, foldedSetIterable iter X.env x = pure x := by intro _; rfl) :
    SS T X W B (.Assign [.Name y py] (.ListComp elt [⟨tg, iter, ifs, 0⟩] scope pos) spos) (.asg (.nm i) (.lc ce (own.map (·.2)) tgc ci cc)) :=
  ps_imp (L2.ps_setLc (g := tG B X.K tgc) (tt := tTu T X Wf B cc) (te := tDu T X Wf B ce) hc hN hy hyl hsw (pi_u hi) ok (fun s H C cl fp => hg s H C cl fp) (fun s H C cl fp => ht s H C cl fp) (fun s H C cl fp => pe_u (he s H C cl fp)) hs) fun D σ H ⟨Γ, o, G, h, ok, q⟩ => by
    unfold evalS at h
    have z : tDu T X W B (.lc ce (own.map (·.2)) tgc ci cc) σ H (fun x H1 => L2.gName i x σ H1 D.nx) := thnS h ok q fun k d δ v G' H' _ h2 o' s' w' _ q' => by
      obtain ⟨Γ2, h3, rfl⟩ := Option.map_eq_some_iff.mp h2
      obtain ⟨G2, o2, e2⟩ := put_ok h3 o' w'
      exact q' _ G2 H' o2 e2
    obtain ⟨Γ2, r2, h2, z⟩ := z
    obtain ⟨r1, h1⟩ := lc_it h2
    exact ⟨Γ2, r1, h1, lc_read h2 h1 z⟩
end
end Fd
end
section
set_option maxRecDepth 100000
set_option maxHeartbeats 2000000
namespace Fd
open PySem PyProof.Rows
section
variable {T : Nat → Option Fc} {X : L2.Cx} {W : L2.WX} {B : Bs} {K : Frag} {G G' H H' : Hp} {σ σ' : L2.St} {Γ Γ' : Ev} {k : Kd} {d : Fd.D} {v : V} {r : R} {Q : L2.VK} {δ : Dl} {D : L2.Ends} {o : O} {pos : Pos}
/-! ### raise -/
theorem ss_raise {C : Addr} {bmB : List Value} {Bn newId initId : String} {x m : Str} {j : Nat} {p p2 pos' : Pos} (hc : X.calm = true) (tk : L2.Takes X W) (F : ExcBaseFacts Bn newId initId bmB) (q : PySem.W.excIn X.K C bmB newId = true) (gC : X.mg x = some (.ref C)) (kC : PySem.W.keepIn X.K (.ref C) = true) (r : L2.Raises X (.ref C)) (hg : L2.Gl X x)
    (hdb : (x == ("__debug__" : Str)) = false := by decide) : SS T X W B (.Raise (some (.Call (.Name x p) [.Constant (.str m) j p2] [] pos')) none pos) (.raise x) :=
  ps_imp (L2.ps_raise hc tk (L2.pmk_own F q gC kC r hg hdb)) fun D σ H ⟨Γ, o, G, h, ok, q⟩ => by
    unfold evalS at h
    cases h
    exact q (.ref C) none σ G H ok (Ex.refl _) ⟨C, gC, rfl, rfl⟩
/-! ### name op= e -/
def ipA (K : Frag) (op : Operator) : L2.TIp := fun x y H Q => ∃ a b z G, Rp K G x a ∧ Rp K G y b ∧ augD op a b = some z ∧ ∀ v, Rp K G v z → Q v H
theorem ip_aug {op : Operator} : L2.PIp X op (ipA X.K op) := by
  intro pins s σ H x y v u Q I r1 r2 ⟨a, b, z, G, ra, rb, e, q⟩
  unfold augD at e
  split at e
  · cases e
    exact L2.ip_add pins s σ H x y v u Q I r1 r2 ⟨_, _, ra.int_inv, rb.int_inv, q _ (.int _)⟩
  · cases e
    exact L2.ip_sub pins s σ H x y v u Q I r1 r2 ⟨_, _, ra.int_inv, rb.int_inv, q _ (.int _)⟩
  · rename_i i j
    split at e
    · rename_i hs
      cases e
      have e1 := ra.int_inv
      have e2 := rb.int_inv
      subst e1; subst e2
      obtain ⟨t, rfl⟩ := r1
      obtain ⟨t', rfl⟩ := r2
      simp only [small, Bool.or_eq_true, Bool.and_eq_true, decide_eq_true_eq] at hs
      have hm := L2.CMul.ok (i := i) (j := j) hs
      refine PySem.AutoIntOps.imul_0 ?_ hm
      exact ⟨.int _, H, I.tok _, ⟨_, rfl⟩, q _ (.int _)⟩
    · cases e
  · split at e
    · rename_i hz
      cases e
      exact L2.iop_add_str pins s σ H x y v u Q I r1 r2 ⟨_, _, ra.str_inv, rb.str_inv, hz, q _ (.str _)⟩
    · cases e
  · cases e
theorem ss_aug {i : Nat} {x : Str} {e : Expr} {c : E} {op : Operator} {pos' : Pos} (hN : X.N.Nodup) (hi : X.N[i]? = some x) (hx : L2.Loc X.env.scope x) (he : SE T X W B e c) (hf : X.fn x = true ∨ X.env.scope.names.lookup x = some .local := by first | exact .inl rfl | exact .inr rfl | assumption) :
    SS T X W B (.AugAssign (.Name x pos') op e pos) (.aug i op c) :=
  ps_imp (L2.ps_aug hN hi hx (pe_u he) ip_aug hf) fun D σ H ⟨Γ, o, G, h, ok, q⟩ => by
    unfold evalS at h
    split at h
    · rename_i a ha
      obtain ⟨x0, hx0, rx0⟩ := ok.ro i a ha
      refine ⟨x0, hx0, ?_⟩
      refine thnS h ok q fun k d δ v G' H' _ h2 o' s' w' _ q' => ?_
      split at h2
      · rename_i hs
        obtain ⟨z, h3, rfl⟩ := Option.map_eq_some_iff.mp h2
        have rd : Rp X.K G' v d := by
          refine w'.flat o' ?_
          unfold augD at h3
          split at h3 <;> first | rfl | cases h3
        exact ⟨a, d, z, G', rx0.ex s'.exG, rd, h3, fun vz rz => q' _ G' H' (o'.set hs rz) (Ex.refl _)⟩
      · cases h2
    · cases h
/-! ### a, b = x, y -/
def tAu (T : Nat → Option Fc) (X : L2.Cx) (W : L2.WX) (B : Bs) (m : Nat → Md) (c : Es) : L2.TA := fun σ H Q => ∃ Γ r, evalA T m c Γ = some r ∧ tA X W B Γ r σ H Q
theorem pa_u {es : List Expr} {c : Es} {m : Nat → Md} (h : SA T X W B es c) : L2.PA X es (tAu T X W B m c) := ⟨fun pos pins s σ H Q I ⟨Γ, r, hr, q⟩ => (h m Γ r hr).run pos pins s σ H Q I q⟩
theorem ss_par {i j : Nat} {x y : Str} {a b : Expr} {px py pt : Pos} {kt k2 pt2} {cs : Es} (hc : X.calm = true) (hN : X.N.Nodup) (hi : X.N[i]? = some x) (hj : X.N[j]? = some y) (hij : i ≠ j)
    (hx : X.env.scope.names.lookup x = some .local) (hy : X.env.scope.names.lookup y = some .local) (ha : SA T X W B [a, b] cs)
    (hw : swappedStores [.Tuple [.Name x px, .Name y py] kt pt] (.Tuple [a, b] k2 pt2) X.env = pure (some [x, y]))
    (hs : swapsWithSole [.Tuple [.Name x px, .Name y py] kt pt] (.Tuple [a, b] k2 pt2) pos.line X.env = pure false := by rfl) :
    SS T X W B (.Assign [.Tuple [.Name x px, .Name y py] kt pt] (.Tuple [a, b] k2 pt2) pos) (.par i j cs) :=
  ps_imp (L2.ps_par hc hN hi hj hij hx hy (pa_u (m := fun _ => .fz) ha) hw hs) fun D σ H ⟨Γ, o, G, h, ok, q⟩ => by
    unfold evalS at h
    split at h
    · rename_i kds δ h1
      split at h
      · rename_i k1 d1 k2' d2
        split at h
        · rename_i hs2
          cases h
          rw [Bool.and_eq_true] at hs2
          refine ⟨Γ, _, h1, G, ok, fun vs G' H' o' s' w' => ?_⟩
          obtain ⟨v, w, rfl, w1, w2⟩ := vls2 w'
          obtain ⟨z1, z2, _⟩ := evalA_kok (by intro n z; cases z) h1
          have z1 : k1 = .ro := z1
          have z2 : k2' = .ro := z2
          subst z1; subst z2
          refine ⟨v, w, rfl, ?_⟩
          have o2 := o'.set hs2.1 w1
          have hs3 : setOk ((apd Γ δ).set i (.ro d1)) j = true := by
            unfold setOk
            rw [List.getElem?_set_ne hij]
            exact hs2.2
          exact q _ G' H' (o2.set hs3 w2) s'.exG
        · cases h
      · cases h
    · rename_i c δ h1
      cases h
      exact ⟨Γ, _, h1, G, ok, fun cls dd G' H' o' s' x' => q cls dd σ G' H' o' s'.exG x'⟩
    · cases h
/-! ### for -/
def tIz (T : Nat → Option Fc) (X : L2.Cx) (W : L2.WX) (B : Bs) (c : E) : L2.TI := fun σ H R => ∃ Γ r G, evalE T c Γ = some r ∧ Ok B X.K G H σ Γ ∧ match r with
  | .ok k d δ => ∃ ds, itD d = some ds ∧ fzZ (apd Γ δ) k = true ∧ ∀ J P G' H', Ok B X.K G' H' σ (apd (apd Γ δ) (fz d k)) → Ex G G' → ItOk B X.K J .ro ds P → P σ (apd (apd Γ δ) (fz d k)) G' H' → R J H'
  | .ex c δ => ∀ cls dd G' H', Ok B X.K G' H' σ (apd Γ δ) → Ex G G' → ExIs X G' H' c cls dd → W cls dd σ H'
def SZ (T : Nat → Option Fc) (X : L2.Cx) (W : L2.WX) (B : Bs) (tg e : Expr) (c : E) : Prop := L2.PI X tg e (tIz T X W B c)
theorem ItOk.toRo {J : L2.It} {ds : List Fd.D} {P : L2.St → Ev → Hp → Hp → Prop} (h : ItOk B K J .sc ds P) : ItOk B K J .ro ds P := ⟨h.go, h.yld, h.stop, fun σ Γ G H δ G' H' _ o s p => h.step σ Γ G H δ G' H' rfl o s p, fun _ => h.ex (by intro i z; cases z), h.heap⟩
theorem sz_si {tg e : Expr} {c : E} (h : SI T X W B tg e c) (hk : ∀ Γ k d δ, evalE T c Γ = some (.ok k d δ) → k = .ro) : SZ T X W B tg e c :=
  ⟨fun pins s σ H R I ⟨Γ, r, G, hr, ok, q⟩ => (h Γ r hr).run pins s σ H R I ⟨G, ok, by
    cases r with
    | ok k d δ =>
      obtain ⟨ds, e1, e2, q⟩ := q
      have e3 := hk _ _ _ _ hr
      subst e3
      exact ⟨ds, e1, fun J P G' H' o' s' i' p' => q J P G' H' o' s'.exG i' p'⟩
    | ex x δ => exact fun cls dd G' H' o' s' x' => q cls dd G' H' o' s'.exG x'⟩⟩
theorem sz_of {tg e : Expr} {c : E} (h : SE T X W B e c) : SZ T X W B tg e c := by
  refine ⟨fun pins s σ H R I ⟨Γ, r, G, hr, ok, q⟩ => ?_⟩
  have hp := h Γ r hr
  cases r with
  | ex x δ => exact (L2.pi_list hp).run pins s σ H R I ⟨G, ok, fun cls dd G' H' o' s' x' => q cls dd G' H' o' s'.exG x'⟩
  | ok k d δ =>
    obtain ⟨ds, hds, hz, q⟩ := q
    cases d with
    | list ds' =>
      cases hds
      refine (L2.pi_list hp).run pins s σ H R I ⟨G, ok, fun v G1 H1 o1 s1 w1 n1 => ?_⟩
      obtain ⟨a, vs, rfl, h1, _⟩ := w1.items o1
      refine ⟨a, rfl, ⟨vs, h1⟩, ?_⟩
      by_cases hk : k = .sc
      · subst hk
        exact q _ _ G1 H1 o1 s1.exG (it_list (k := .sc) (by intro z; cases z)).toRo w1
      · have hz' : fzOk (apd Γ δ) k = true := by
          cases k <;> first | exact absurd rfl hk | exact hz
        obtain ⟨G2, o2, r2, e2⟩ := freeze0 o1 hz' w1
        exact q _ _ G2 H1 o2 (s1.exG.trans e2) (it_list (k := .ro) (by intro z; cases z)) r2
    | tuple ds' =>
      cases hds
      refine (L2.pi_tup hp).run pins s σ H R I ⟨G, ok, fun v G1 H1 o1 s1 w1 n1 => ?_⟩
      obtain ⟨a, vs, rfl, h1, _⟩ := w1.itemsT o1
      refine ⟨a, rfl, ⟨vs, h1⟩, ?_⟩
      have r1 := w1.flat o1 rfl
      have hk : k ≠ .sc := fun z => by subst z; obtain ⟨_, _, _, e, _⟩ := w1; cases e
      have hz' : fzOk (apd Γ δ) k = true := by
        cases k <;> first | exact absurd rfl hk | exact hz
      obtain ⟨G2, o2, r2, e2⟩ := freeze0 o1 hz' w1
      exact q _ _ G2 H1 o2 (s1.exG.trans e2) it_tup (r1.ex e2)
    | str x =>
      cases hds
      refine (L2.pi_str hp).run pins s σ H R I ⟨G, ok, fun v G1 H1 o1 s1 w1 n1 => ?_⟩
      have hk : k ≠ .sc := fun z => by subst z; obtain ⟨_, _, _, e, _⟩ := w1; cases e
      have hz' : fzOk (apd Γ δ) k = true := by
        cases k <;> first | exact absurd rfl hk | exact hz
      obtain ⟨G2, o2, r2, e2⟩ := freeze0 o1 hz' w1
      exact ⟨x, w1.str o1, q _ _ G2 H1 o2 (s1.exG.trans e2) it_str trivial⟩
    | _ => cases hds
theorem ss_for {tg iter : Expr} {t : Tg} {ci : E} {b : List Stmt} {cb : Ss} (hp : PassesOwn (model X.prog X.w) X.A X.env X.xe) (hc : X.calm = true) (hi : SZ T X W B tg iter ci) (hg : SG X B tg t) (hb : SSs T X W B b cb) (hs : ∀ x, foldedSetIterable iter X.env x = pure x := by intro _; rfl) :
    SS T X W B (.For tg iter b [] pos) (.for_ t ci cb) :=
  ps_imp (L2.ps_for hp hc hi hg hb hs) fun D σ H ⟨Γ, o, G, h, ok, q⟩ => by
    unfold evalS at h
    rcases othn h with ⟨x, δ, h1, rfl⟩ | ⟨k, d, δ, h1, h2⟩
    · exact ⟨Γ, _, G, h1, ok, fun cls dd G' H' o' e' x' => q cls dd σ G' H' o' e' x'⟩
    · split at h2
      · rename_i ds hds
        split at h2
        · rename_i hz
          refine ⟨Γ, _, G, h1, ok, ds, hds, hz, fun J P G1 H1 o1 e1 ji p1 => ?_⟩
          refine ⟨fun i m σ H => m = ds.length - i ∧ i ≤ ds.length ∧ ∃ Γi Gi, Ok B X.K Gi H σ Γi ∧ Ex G Gi ∧ P σ Γi Gi H ∧ foL t (fun Γ => evalSs T cb Γ) (ds.drop i) Γi = some o, ⟨ds.length, rfl, Nat.zero_le _, _, G1, o1, e1, p1, by simpa using h2⟩, ?_⟩
          rintro i m σ H ⟨rfl, hi, Γi, Gi, oi, ei, pi, hf⟩
          have qi := q.mono ei
          by_cases hlt : i < ds.length
          · refine .inr ⟨ji.go i σ Γi Gi H oi pi hlt, fun σ H => ∃ Γi Gi, Ok B X.K Gi H σ Γi ∧ Ex G Gi ∧ P σ Γi Gi H ∧ foL t (fun Γ => evalSs T cb Γ) (ds.drop (i + 1)) Γi = some o, fun σ' H' w => ⟨ds.length - (i + 1), by omega, rfl, hlt, w⟩, fun x H3 y => ?_⟩
            obtain ⟨rfl, rx⟩ := ji.yld i σ Γi Gi H x H3 _ oi pi y (List.getElem?_eq_getElem hlt)
            rw [drop_cons hlt] at hf
            unfold foL at hf
            split at hf
            · rename_i Γ1 ht
              refine ⟨Γi, _, Γ1, Gi, oi, rx, ht, fun σ2 o2 _ _ => ?_⟩
              have np : ∀ i, Kd.ro ≠ Kd.al i := by intro i z; cases z
              split at hf
              · rename_i Γ' h4
                exact ⟨Γ1, _, Gi, h4, o2, fun σ' G' H' o' e' => ⟨Γ', G', o', ei.trans e', ji.ex np _ _ _ _ _ _ _ _ e' pi, hf⟩⟩
              · rename_i Γ' h4
                exact ⟨Γ1, _, Gi, h4, o2, fun σ' G' H' o' e' => ⟨Γ', G', o', ei.trans e', ji.ex np _ _ _ _ _ _ _ _ e' pi, hf⟩⟩
              · rename_i Γ' h4
                cases hf
                exact ⟨Γ1, _, Gi, h4, o2, fun σ' G' H' o' e' => qi σ' G' H' o' e'⟩
              · rename_i f d Γ' h4
                cases hf
                exact ⟨Γ1, _, Gi, h4, o2, fun v σ' G' H' o' e' r' => qi v σ' G' H' o' e' r'⟩
              · rename_i c Γ' h4
                cases hf
                exact ⟨Γ1, _, Gi, h4, o2, fun cls dd σ' G' H' o' e' r' => qi cls dd σ' G' H' o' e' r'⟩
              · cases hf
            · cases hf
          · have e : i = ds.length := by omega
            subst e
            rw [List.drop_length] at hf
            cases hf
            exact .inl ⟨ji.stop _ σ Γi Gi H oi pi (Nat.le_refl _), qi σ Gi H oi (Ex.refl _)⟩
        · cases h2
      · cases h2
theorem rng1_ro {c : E} {k : Kd} {d : Fd.D} {δ : Dl} (h : evalE T (.rng1 c) Γ = some (.ok k d δ)) : k = .ro := by
  unfold evalE at h
  rcases thn_some h with ⟨c', δ', h1, e⟩ | ⟨k1, d1, δ1, r', h1, h2, e⟩
  · cases e
  · cases d1 with
    | int n =>
      simp only at h2
      split at h2
      · cases h2; cases e; rfl
      · cases h2
    | _ => cases h2
theorem rng2_ro {c c2 : E} {k : Kd} {d : Fd.D} {δ : Dl} (h : evalE T (.rng2 c c2) Γ = some (.ok k d δ)) : k = .ro := by
  unfold evalE at h
  rcases thn_some h with ⟨c', δ', h1, e⟩ | ⟨k1, d1, δ1, r', h1, h2, e⟩
  · cases e
  · rcases thn_some h2 with ⟨c', δ', h3, e'⟩ | ⟨k2, d2, δ2, r'', h3, h4, e'⟩
    · subst e'; cases e
    · cases d1 with
      | int n =>
        cases d2 with
        | int m =>
          simp only at h4
          split at h4
          · cases h4; subst e'; cases e; rfl
          · cases h4
        | _ => cases h4
      | _ => cases d2 <;> cases h4
end
end Fd
end
section
set_option maxRecDepth 100000
set_option maxHeartbeats 2000000
namespace Fd
open PySem PySem.Spec PyProof.Rows
/-- the slots of the arguments -/
def slotsOf : List Md → List D → Option Ev
  | [], [] => some []
  | .fz :: ms, d :: ds => (slotsOf ms ds).map (.ro d :: ·)
  | .io :: ms, d :: ds => (slotsOf ms ds).map (.own true d :: ·)
  | .sc :: ms, .list xs :: ds => (intsD xs).bind fun ns => (slotsOf ms ds).map (.scr ns :: ·)
  | _, _ => none
def outsE : List Md → Ev → List D
  | .io :: ms, .own true d :: Γ => d :: outsE ms Γ
  | _ :: ms, _ :: Γ => outsE ms Γ
  | _, _ => []
def noIo : Md → Bool
  | .io => false
  | _ => true
def ioOne : List Md → Bool
  | [] => true
  | .io :: r => r.all noIo
  | _ :: r => ioOne r
def runF (T : Nat → Option Fc) (n : Nat) (ms : List Md) (c : Ss) (ds : List D) : Option FR :=
  match slotsOf ms ds with
  | some Γ0 => match evalSs T c (Γ0 ++ List.replicate (n - ms.length) .no) with
    | some (.nx Γ) => some (.ok false .none (outsE ms Γ))
    | some (.rt f d Γ) => some (.ok f d (outsE ms Γ))
    | some (.ex x Γ) => some (.ex x (outsE ms Γ))
    | _ => none
  | none => none
def fcOf (T : Nat → Option Fc) (n : Nat) (ms : List Md) (c : Ss) : Fc := ⟨ms, runF T n ms c⟩
def parL : Nat → Ev → List V → List (Nat × Addr)
  | j, .own _ _ :: Γ, .ref p :: vs => (j, p) :: parL (j + 1) Γ vs
  | j, _ :: Γ, _ :: vs => parL (j + 1) Γ vs
  | _, _, _ => []
theorem parL_mem : ∀ {Γ : Ev} {vs : List V} {j i : Nat} {p : Addr}, (i, p) ∈ parL j Γ vs → ∃ k b d, i = j + k ∧ Γ[k]? = some (.own b d) ∧ vs[k]? = some (.ref p)
  | [], vs, j, i, p, h => by unfold parL at h; cases h
  | s :: Γ, [], j, i, p, h => by
    unfold parL at h
    split at h <;> first | (rename_i e1 e2; cases e2; done) | cases h
  | s :: Γ, v :: vs, j, i, p, h => by
    have go : (i, p) ∈ parL (j + 1) Γ vs → ∃ k b d, i = j + k ∧ (s :: Γ)[k]? = some (.own b d) ∧ (v :: vs)[k]? = some (.ref p) := fun h => by
      obtain ⟨k, b, d, e, h1, h2⟩ := parL_mem h
      exact ⟨k + 1, b, d, by omega, by simpa using h1, by simpa using h2⟩
    unfold parL at h
    split at h
    · rename_i b d Γ' q vs' e1 e2
      cases e1; cases e2
      rcases List.mem_cons.mp h with e | h
      · cases e
        exact ⟨0, b, d, rfl, rfl, rfl⟩
      · exact go h
    · rename_i e1 e2
      cases e1; cases e2
      exact go h
    · cases h
theorem parL_in : ∀ {Γ : Ev} {vs : List V} {j k : Nat} {b : Bool} {d : D} {p : Addr}, Γ[k]? = some (.own b d) → vs[k]? = some (.ref p) → (j + k, p) ∈ parL j Γ vs
  | [], _, _, _, _, _, _, h, _ => by simp at h
  | _ :: _, [], _, _, _, _, _, _, h => by simp at h
  | s :: Γ, v :: vs, j, 0, b, d, p, h1, h2 => by
    simp at h1 h2
    subst h1; subst h2
    unfold parL
    exact List.mem_cons_self
  | s :: Γ, v :: vs, j, k + 1, b, d, p, h1, h2 => by
    have z : (j + 1 + k, p) ∈ parL (j + 1) Γ vs := parL_in (by simpa using h1) (by simpa using h2)
    have e : j + (k + 1) = j + 1 + k := by omega
    rw [e]
    unfold parL
    split
    · rename_i e1 e2
      cases e1; cases e2
      exact List.mem_cons_of_mem _ z
    · rename_i e1 e2
      cases e1; cases e2
      exact z
    · rename_i n1 n2
      exact absurd rfl (n2 _ _ _ _ rfl)
section
variable {K : Frag} {G H G' H' : Hp}
/-- what a slot of an argument is -/
def SlArg (K : Frag) (G H : Hp) (ps : List Addr) (m : Md) (s : Slot) (v : V) : Prop :=
  match m with
  | .fz => ∃ d, s = .ro d ∧ Rp K G v d
  | .io => ∃ p d, s = .own true d ∧ v = .ref p ∧ p ∈ ps ∧ G p = none ∧ OwnR K G H p d
  | .sc => ∃ a ns, s = .scr ns ∧ v = .ref a ∧ L2.SqL K G a (ns.map L2.V.int)
  | .bo => False
theorem args_of : ∀ {ms : List Md} {vs : List V} {ds : List D} {ps qs : List Addr} {Γ : Ev}, Ha K G H (modeAt ms) vs ds ps → slotsOf ms ds = some Γ → (∀ p ∈ ps, p ∈ qs) →
    Γ.length = ms.length ∧ vs.length = ms.length ∧ ∀ (i : Nat) (m : Md) (s : Slot) (v : V), ms[i]? = some m → Γ[i]? = some s → vs[i]? = some v → SlArg K G H qs m s v
  | [], vs, ds, ps, qs, Γ, h, e, hq => by
    cases ds with
    | cons _ _ => cases e
    | nil =>
      cases e
      have := h.length
      cases vs with
      | nil => exact ⟨rfl, rfl, fun i m s v h => by simp at h⟩
      | cons _ _ => simp at this
  | m :: ms, vs, ds, ps, qs, Γ, h, e, hq => by
    cases h with
    | nil => cases m <;> cases e
    | @fz _ v d vs ds ps e0 r hr =>
      have e0 : m = .fz := e0
      subst e0
      obtain ⟨Γ', h1, rfl⟩ := Option.map_eq_some_iff.mp e
      obtain ⟨a, b, c⟩ := args_of (ms := ms) hr h1 hq
      refine ⟨by simp [a], by simp [b], fun i m' s w hm hs hv => ?_⟩
      cases i with
      | zero =>
        simp at hm hs hv
        subst hm; subst hs; subst hv
        exact ⟨d, rfl, r⟩
      | succ i => exact c i m' s w (by simpa using hm) (by simpa using hs) (by simpa using hv)
    | @io _ p d vs ds ps e0 g r hr =>
      have e0 : m = .io := e0
      subst e0
      obtain ⟨Γ', h1, rfl⟩ := Option.map_eq_some_iff.mp e
      obtain ⟨a, b, c⟩ := args_of (ms := ms) hr h1 fun q hq' => hq q (List.mem_cons_of_mem _ hq')
      refine ⟨by simp [a], by simp [b], fun i m' s w hm hs hv => ?_⟩
      cases i with
      | zero =>
        simp at hm hs hv
        subst hm; subst hs; subst hv
        exact ⟨p, d, rfl, rfl, hq p List.mem_cons_self, g, r⟩
      | succ i => exact c i m' s w (by simpa using hm) (by simpa using hs) (by simpa using hv)
    | @sc _ q ns vs ds ps e0 r hr =>
      have e0 : m = .sc := e0
      subst e0
      obtain ⟨ns', h0, e⟩ := Option.bind_eq_some_iff.mp e
      obtain ⟨Γ', h1, rfl⟩ := Option.map_eq_some_iff.mp e
      have e2 := intD_inj (ints_of h0)
      subst e2
      obtain ⟨a, b, c⟩ := args_of (ms := ms) hr h1 hq
      refine ⟨by simp [a], by simp [b], fun i m' s w hm hs hv => ?_⟩
      cases i with
      | zero =>
        simp at hm hs hv
        subst hm; subst hs; subst hv
        exact ⟨q, _, rfl, rfl, r⟩
      | succ i => exact c i m' s w (by simpa using hm) (by simpa using hs) (by simpa using hv)
theorem ioOne_eq : ∀ {ms : List Md} {i j : Nat}, ioOne ms = true → ms[i]? = some .io → ms[j]? = some .io → i = j
  | [], _, _, _, h, _ => by simp at h
  | m :: ms, i, j, h, h1, h2 => by
    have all : m = .io → ∀ k : Nat, ms[k]? ≠ some Md.io := fun e k hk => by
      subst e
      have z := List.all_eq_true.mp (show ms.all noIo = true from h) _ (List.mem_of_getElem? hk)
      cases z
    have next : m ≠ .io → ioOne ms = true := fun e => by
      cases m <;> first | exact absurd rfl e | exact h
    cases i with
    | zero =>
      have e : m = .io := by simpa using h1
      cases j with
      | zero => rfl
      | succ j => exact absurd (by simpa using h2) (all e j)
    | succ i =>
      cases j with
      | zero =>
        have e : m = .io := by simpa using h2
        exact absurd (by simpa using h1) (all e i)
      | succ j =>
        by_cases e : m = .io
        · exact absurd (by simpa using h1) (all e i)
        · rw [ioOne_eq (i := i) (j := j) (next e) (by simpa using h1) (by simpa using h2)]
theorem noIo_ps : ∀ {ms : List Md} {vs : List V} {ds : List D} {ps : List Addr}, Ha K G H (modeAt ms) vs ds ps → ms.all noIo = true → ms.length = vs.length → ps = [] ∧ ∀ Γ : Ev, outsE ms Γ = []
  | [], vs, ds, ps, h, _, hl => by
    cases h with
    | nil => exact ⟨rfl, fun Γ => by cases Γ <;> rfl⟩
    | _ => simp at hl
  | m :: ms, vs, ds, ps, h, ha, hl => by
    rw [List.all_cons, Bool.and_eq_true] at ha
    have out : (∀ Γ : Ev, outsE ms Γ = []) → ∀ Γ : Ev, outsE (m :: ms) Γ = [] := fun q Γ => by
      cases Γ with
      | nil => cases m <;> rfl
      | cons s Γ => cases m <;> first | exact q Γ | cases ha.1
    cases h with
    | nil => simp at hl
    | fz e0 r hr =>
      obtain ⟨a, b⟩ := noIo_ps (ms := ms) hr ha.2 (by simpa using hl)
      exact ⟨a, out b⟩
    | io e0 _ r hr =>
      have e0 : m = .io := e0
      subst e0
      cases ha.1
    | sc e0 r hr =>
      obtain ⟨a, b⟩ := noIo_ps (ms := ms) hr ha.2 (by simpa using hl)
      exact ⟨a, out b⟩
theorem noIo_of : ∀ {ms : List Md} {vs : List V} {ds : List D} {ps : List Addr}, Ha K G H (modeAt ms) vs ds ps → ms.length = vs.length → (∀ (i : Nat) (p : Addr), ms[i]? = some Md.io → vs[i]? = some (L2.V.ref p) → False) → ps = []
  | [], vs, ds, ps, h, hl, _ => by
    cases h with
    | nil => rfl
    | _ => simp at hl
  | m :: ms, vs, ds, ps, h, hl, q => by
    cases h with
    | nil => simp at hl
    | fz e0 r hr => exact noIo_of (ms := ms) hr (by simpa using hl) fun i p h1 h2 => q (i + 1) p (by simpa using h1) (by simpa using h2)
    | sc e0 r hr => exact noIo_of (ms := ms) hr (by simpa using hl) fun i p h1 h2 => q (i + 1) p (by simpa using h1) (by simpa using h2)
    | @io _ p d vs ds ps e0 g r hr =>
      have e0 : m = .io := e0
      subst e0
      exact (q 0 p rfl rfl).elim
theorem outs_ok : ∀ {ms : List Md} {vs : List V} {ds : List D} {ps : List Addr} {Γ : Ev}, Ha K G H (modeAt ms) vs ds ps → ioOne ms = true → ms.length = vs.length →
    (∀ (i : Nat) (p : Addr), ms[i]? = some Md.io → vs[i]? = some (L2.V.ref p) → ∃ d, Γ[i]? = some (.own true d) ∧ OwnR K G' H' p d) → Outs K G' H' ps (outsE ms Γ)
  | [], vs, ds, ps, Γ, h, _, hl, _ => by
    cases h with
    | nil => cases Γ <;> exact .nil
    | _ => simp at hl
  | m :: ms, vs, ds, ps, [], h, _, hl, q => by
    have z := noIo_of h hl fun i p h1 h2 => by
      obtain ⟨d, h3, _⟩ := q i p h1 h2
      simp at h3
    subst z
    cases m <;> exact .nil
  | m :: ms, vs, ds, ps, s :: Γ, h, ho, hl, q => by
    cases h with
    | nil => simp at hl
    | fz e0 r hr =>
      have e0 : m = .fz := e0
      subst e0
      exact outs_ok (ms := ms) hr ho (by simpa using hl) fun i p h1 h2 => by simpa using q (i + 1) p (by simpa using h1) (by simpa using h2)
    | sc e0 r hr =>
      have e0 : m = .sc := e0
      subst e0
      exact outs_ok (ms := ms) hr ho (by simpa using hl) fun i p h1 h2 => by simpa using q (i + 1) p (by simpa using h1) (by simpa using h2)
    | @io _ p d vs ds ps e0 g r hr =>
      have e0 : m = .io := e0
      subst e0
      obtain ⟨a, b⟩ := noIo_ps (ms := ms) hr ho (by simpa using hl)
      subst a
      obtain ⟨d', h1, h2⟩ := q 0 p rfl rfl
      have h1 : s = .own true d' := by simpa using h1
      subst h1
      show Outs K G' H' [p] (d' :: outsE ms Γ)
      rw [b]
      exact .one h2
theorem get_append_none {α : Type} {a : List α} {n : Nat} {x s : α} {i : Nat} (h : (a ++ List.replicate n x)[i]? = some s) : a[i]? = some s ∨ (a.length ≤ i ∧ s = x) := by
  by_cases z : i < a.length
  · rw [List.getElem?_append_left z] at h
    exact .inl h
  · have z : a.length ≤ i := by omega
    rw [List.getElem?_append_right z] at h
    refine .inr ⟨z, ?_⟩
    have := List.mem_of_getElem? h
    exact (List.mem_replicate.mp this).2
theorem get_append_lt {α : Type} {a b : List α} {i : Nat} {s : α} (h : a[i]? = some s) : (a ++ b)[i]? = some s := by
  rw [List.getElem?_append_left (List.getElem?_eq_some_iff.mp h).1]
  exact h
/-- the context at a def's start -/
theorem ok_start {ms : List Md} {vs : List V} {ds : List D} {ps : List Addr} {Γ0 : Ev} {N : List Str} (hx : Ex G H) (h : Ha K G H (modeAt ms) vs ds ps) (e : slotsOf ms ds = some Γ0) (ho : ioOne ms = true) (hN : ms.length ≤ N.length) :
    Ok ⟨G, H, parL 0 Γ0 vs, [], []⟩ K G H (L2.start N vs) (Γ0 ++ List.replicate (N.length - ms.length) .no) := by
  obtain ⟨l1, l2, arg⟩ := args_of h e fun p hp => hp
  have hv : ∀ {i : Nat} {s : Slot}, Γ0[i]? = some s → ∃ m v, ms[i]? = some m ∧ vs[i]? = some v ∧ SlArg K G H ps m s v := fun {i s} hs => by
    have hi := (List.getElem?_eq_some_iff.mp hs).1
    have h1 : ms[i]? = some ms[i] := List.getElem?_eq_getElem (by omega)
    have h2 : vs[i]? = some vs[i] := List.getElem?_eq_getElem (by omega)
    exact ⟨_, _, h1, h2, arg i _ s _ h1 hs h2⟩
  have st : ∀ {i : Nat} {v : V}, vs[i]? = some v → (L2.start N vs)[i]? = some (some v) := fun {i v} h => by
    unfold L2.start
    exact get_append_lt (by rw [List.getElem?_map, h]; rfl)
  have inj : ∀ (i j : Nat) (b c : Bool) (d e : D), (Γ0 ++ List.replicate (N.length - ms.length) Slot.no)[i]? = some (Slot.own b d) → (Γ0 ++ List.replicate (N.length - ms.length) Slot.no)[j]? = some (Slot.own c e) → i = j := fun i j b c d e h1 h2 => by
    rcases get_append_none h1 with h1 | ⟨_, z⟩
    · rcases get_append_none h2 with h2 | ⟨_, z⟩
      · obtain ⟨m, v, a1, a2, a3⟩ := hv h1
        obtain ⟨m', v', b1, b2, b3⟩ := hv h2
        have em : m = .io := by
          cases m with
          | io => rfl
          | fz => obtain ⟨_, z, _⟩ := a3; cases z
          | sc => obtain ⟨_, _, z, _⟩ := a3; cases z
          | bo => exact a3.elim
        have em' : m' = .io := by
          cases m' with
          | io => rfl
          | fz => obtain ⟨_, z, _⟩ := b3; cases z
          | sc => obtain ⟨_, _, z, _⟩ := b3; cases z
          | bo => exact b3.elim
        subst em; subst em'
        exact ioOne_eq ho a1 b1
      · cases z
    · cases z
  refine ⟨hx, fun i d h => ?_, fun i b d h => ?_, fun i j b c d e p h1 h2 _ _ => inj i j b c d e h1 h2, Ex.refl _, fun a o h _ => h, fun a o _ g => g, fun i ns h => ?_, fun j p hp => ?_, ?_, fun i a h => (nomatch h), fun a fs h => (nomatch h)⟩
  · rcases get_append_none h with h | ⟨_, z⟩
    · obtain ⟨m, v, a1, a2, a3⟩ := hv h
      cases m with
      | fz => obtain ⟨d', z, r⟩ := a3; cases z; exact ⟨v, st a2, r⟩
      | io => obtain ⟨_, _, z, _⟩ := a3; cases z
      | sc => obtain ⟨_, _, z, _⟩ := a3; cases z
      | bo => exact a3.elim
    · cases z
  · rcases get_append_none h with h | ⟨_, z⟩
    · obtain ⟨m, v, a1, a2, a3⟩ := hv h
      cases m with
      | fz => obtain ⟨d', z, r⟩ := a3; cases z
      | io =>
        obtain ⟨p, d', z, ev, hp, g, r⟩ := a3
        cases z
        subst ev
        refine ⟨p, st a2, g, r, fun _ => ?_, fun z => nomatch z⟩
        have := parL_in (j := 0) h a2
        rwa [Nat.zero_add] at this
      | sc => obtain ⟨_, _, z, _⟩ := a3; cases z
      | bo => exact a3.elim
    · cases z
  · rcases get_append_none h with h | ⟨_, z⟩
    · obtain ⟨m, v, a1, a2, a3⟩ := hv h
      cases m with
      | fz => obtain ⟨d', z, r⟩ := a3; cases z
      | io => obtain ⟨_, _, z, _⟩ := a3; cases z
      | sc => obtain ⟨a, ns', z, ev, r⟩ := a3; cases z; subst ev; exact ⟨a, st a2, r⟩
      | bo => exact a3.elim
    · cases z
  · obtain ⟨k, b, d, ej, h1, h2⟩ := parL_mem hp
    have ej : j = k := by omega
    subst ej
    obtain ⟨m, v, a1, a2, a3⟩ := hv h1
    refine ⟨st h2, d, ?_⟩
    cases m with
    | fz => obtain ⟨_, z, _⟩ := a3; cases z
    | io => obtain ⟨_, _, z, _⟩ := a3; cases z; exact get_append_lt h1
    | sc => obtain ⟨_, _, z, _⟩ := a3; cases z
    | bo => exact a3.elim
  · unfold L2.start
    simp [l1, l2]
/-- .. at its end -/
theorem back_end {ms : List Md} {vs : List V} {ds : List D} {ps : List Addr} {Γ0 Γ' : Ev} {σ' : L2.St} (h : Ha K G H (modeAt ms) vs ds ps) (e : slotsOf ms ds = some Γ0) (ho : ioOne ms = true)
    (o : Ok ⟨G, H, parL 0 Γ0 vs, [], []⟩ K G' H' σ' Γ') : Back K ps (outsE ms Γ') G H G' H' := by
  obtain ⟨l1, l2, arg⟩ := args_of h e fun p hp => hp
  have hpar : ∀ {j : Nat} {p : Addr}, (j, p) ∈ parL 0 Γ0 vs → p ∈ ps := fun {j p} hp => by
    obtain ⟨k, b, d, ej, h1, h2⟩ := parL_mem hp
    have hi := (List.getElem?_eq_some_iff.mp h1).1
    have a3 := arg k _ _ _ (List.getElem?_eq_getElem (l := ms) (by omega)) h1 h2
    revert a3
    generalize ms[k]'(by omega) = m
    intro a3
    cases m with
    | fz => obtain ⟨_, z, _⟩ := a3; cases z
    | io => obtain ⟨q, _, z, eq, hq, _⟩ := a3; cases eq; exact hq
    | sc => obtain ⟨_, _, z, _⟩ := a3; cases z
    | bo => exact a3.elim
  refine ⟨o.sub, o.exG, fun a u hu hn => o.keep a u hu fun j hj => hn (hpar hj), o.thin, ?_⟩
  refine outs_ok h ho l2.symm fun i p h1 h2 => ?_
  have hi := (List.getElem?_eq_some_iff.mp h1).1
  have h3 : Γ0[i]? = some Γ0[i] := List.getElem?_eq_getElem (by omega)
  have a3 := arg i _ _ _ h1 h3 h2
  obtain ⟨q, d, es, ev, hq, g, r⟩ := a3
  cases ev
  rw [es] at h3
  have hp := parL_in (j := 0) h3 h2
  rw [Nat.zero_add] at hp
  obtain ⟨b1, d', b2⟩ := o.par i p hp
  obtain ⟨p', c1, c2, c3, _⟩ := o.own i true d' b2
  rw [b1] at c1
  cases c1
  exact ⟨d', b2, c3⟩
end
/-- a def's contract, by its compact text -/
theorem fnE {P : Program} {w : World} {K : Frag} {mg : Str → Option Value} {base : Heap} {k : Nat} {f : Addr} {x qual : Str} {st : Stmt} {fd : FuncData} {N ps : List Str} {T : Nat → Option Fc} {ms : List Md} {c : Ss} (F : L2.Fun K x qual st f fd) (S : L2.FnScope N ps (L2.defScope st))
    (hms : ms.length = ps.length := by rfl) (hNl : ms.length ≤ N.length := by decide) (ho : ioOne ms = true := by rfl)
    (body : ∀ (cdv : Value) (A : Around) (outer : List Env) (s : Shared) (H : Hp) (E : L2.XK) (B : Bs), L2.Room k (A.deeper (envOfC qual (L2.defScope st) s.heap.objs.size f cdv)) → A.guards = some [] →
      SSs T (L2.cxOf (L2.CX P w) P w K mg base N qual (L2.defScope st) f cdv A outer s H E) (fun cls d _ H => E cls d H) B (L2.defBody st) c) :
    FnG P w K mg base (k + 1) f fd ps (spOf K mg ps.length (fcOf T N.length ms c)) := by
  refine fnG_of F S (fun vs H Q E ⟨_, _, _, _, _, _, hl, _⟩ => hl) fun cdv A outer s H vs Q E hr hgd ⟨G, ds, pas, r, hx, ha, hl, hf, hq⟩ => ?_
  have hf : runF T N.length ms c ds = some r := hf
  have ha : Ha K G H (modeAt ms) vs ds pas := ha
  unfold runF at hf
  split at hf
  · rename_i Γ0 e0
    have ok0 := ok_start (N := N) hx ha e0 ho hNl
    refine ⟨_, body cdv A outer s H E ⟨G, H, parL 0 Γ0 vs, [], []⟩ hr hgd, ?_⟩
    have bk : ∀ {G' H' : Hp} {σ' : L2.St} {Γ' : Ev}, Ok ⟨G, H, parL 0 Γ0 vs, [], []⟩ K G' H' σ' Γ' → Back K pas (outsE ms Γ') G H G' H' := fun {G' H' σ' Γ'} o => back_end ha e0 ho o
    split at hf
    · rename_i Γ h1
      cases hf
      exact ⟨_, _, G, h1, ok0, fun σ' G' H' o' e' => hq .non G' H' (bk o') .non⟩
    · rename_i fr d Γ h1
      cases hf
      refine ⟨_, _, G, h1, ok0, fun v σ' G' H' o' e' r' => hq v G' H' (bk o') ?_⟩
      unfold RtV at r'
      cases fr with
      | true =>
        obtain ⟨p, e1, e2, e3, e4⟩ := r'
        exact ⟨p, e1, e4, e2, e3⟩
      | false => exact r'
    · rename_i x Γ h1
      cases hf
      exact ⟨_, _, G, h1, ok0, fun cls dd σ' G' H' o' e' x' => hq cls dd G' H' (bk o') x'⟩
    · cases hf
  · cases hf
end Fd
end
section
set_option maxRecDepth 100000
set_option maxHeartbeats 2000000
namespace Fd
open PySem PySem.Spec PyProof.Rows L2
/-- what is wished behind the law's call -/
def Wish (s1 : Shared) (r : Result) (s2 : Shared) : Prop := r = .ok (.ret (.bool true)) ∧ OldK s1.heap s2.heap ∧ s2.os = s1.os ∧ AllBare s2.gens
/-- a def, as its callers need it -/
def Gd (P : Program) (w : World) (K : Frag) (mg : PySem.Str → Option Value) (bs : Heap) (lv : Nat) (y : PySem.Str) (ps : List PySem.Str) (F : Fc) : Prop :=
  ∃ f fd, mg y = some (.ref f) ∧ PySem.W.keepIn K (.ref f) = true ∧ L2.Binds K fd ps [] ∧ FnG P w K mg bs lv f fd ps (spOf K mg ps.length F)
section
variable {P : Program} {w : World} {K : Frag} {mg mb : PySem.Str → Option Value} {lv : Nat} {fa a : Addr} {x y : PySem.Str} {F : Fc} {s1 : Shared} {us : List Value} {ns : List Int}
/-- .. where Hh tracks the script at most -/
theorem law_at (kin : K.In s1.heap) (gns : s1.heap.Ns mainGlobals mg) (bns : s1.heap.Ns builtinsNs mb) (blt : ∀ y : PySem.Str, y ≠ "__name__" → mb y = bootBuiltins y) (nol : s1.heap.NoLimit) (ng : s1.gens = #[])
    (sc : s1.heap.get? a = some { cls := .type "list", data := .seq us.toArray }) (room : L2.Room lv callerA) (FF : ∀ bs : Heap, K.In bs → bs.Ns mainGlobals mg → Gd P w K mg bs lv y [x] F) (hy : mg y = some (.ref fa))
    (ms : F.ms = [.sc]) (val : F.f [.list (ns.map PyData.int)] = some (.ok false (.bool true) []))
    (Hh : L2.Hp) (only : L2.Only Hh) (seq : L2.SqL K Hh a (ns.map L2.V.int)) (good : L2.HOk P w Hh s1.heap) (at_a : ∀ b, Hh b ≠ none → b = a) (notK : Hh a ≠ none → K.lookup a = none) :
    codeAny (model P w) callerA (.call (.ref fa) ⟨[.ref a], []⟩) (Wish s1) s1 := by
  have free_of : ∀ {b : Addr} {o : Obj}, s1.heap.get? b = some o → (∀ vs : List Value, o ≠ ({ cls := .type "list", data := .seq vs.toArray } : Obj)) → Hh b = none := fun {b o} e n => by
    cases z : Hh b with
    | none => rfl
    | some v =>
      have eb : b = a := at_a b (fun y => by rw [z] at y; cases y)
      rw [eb, sc] at e
      exact absurd (Option.some.inj e).symm (n us)
  have ns_of : ∀ {b : Addr} {m : PySem.Str → Option Value}, s1.heap.Ns b m → (hidT s1.heap Hh).Ns b m := fun {b m} h => by
    obtain ⟨o, es, ep, e, dd, rest⟩ := h
    refine ⟨o, es, ep, L2.hidT_get e (free_of e fun vs z => ?_), dd, rest⟩
    rw [z] at dd
    cases dd
  have kin2 : K.In (hidT s1.heap Hh) := fun b o e => by
    refine L2.hidT_get (kin b o e) ?_
    cases z : Hh b with
    | none => rfl
    | some v =>
      have eb : b = a := at_a b (fun y => by rw [z] at y; cases y)
      rw [eb] at z e
      rw [notK (fun y => by rw [z] at y; cases y)] at e
      cases e
  obtain ⟨ml, l1, l2⟩ := nol
  have md : L2.Mod K mg (hidT s1.heap Hh) := ⟨kin2, ns_of gns, ⟨mb, ns_of bns, blt⟩, ⟨ml, ns_of l1, l2⟩⟩
  have env : L2.Env0 P w K mg (hidT s1.heap Hh) callerA [] s1 Hh :=
    ⟨rfl, md, fun b o e => L2.of_hidT e, Nat.le_of_eq (L2.hidT_size _ _), trivial, fun b hb => (nomatch hb), good, .of_eq ng⟩
  have want : spOf K mg 1 F [.ref a] Hh (fun v _ => v = .bl true) (fun _ _ _ => False) := by
    refine ⟨Hh, [.list (ns.map PyData.int)], [], _, Ex.refl _, ?_, rfl, val, fun v G' H' _ rv => ?_⟩
    · rw [ms]
      exact .sc rfl seq (.nil _)
    · simp only [Bool.false_eq_true, if_false] at rv
      exact rv.bl_inv
  obtain ⟨f, fd, hf, _, bnd, FN⟩ := FF _ kin2 (ns_of gns)
  have ef : f = fa := by
    rw [hy] at hf
    exact (Value.ref.inj (Option.some.inj hf)).symm
  subst ef
  refine codeAny_mono (FN.run callerA [] s1 Hh [.ref a] [.ref a] _ _ room rfl env (bnd s1 [.ref a] kin rfl) (.cons rfl .nil) want) fun r s2 h => ?_
  match r, h with
  | .error e, h =>
    obtain ⟨_, _, _, _, _, _, _, _, _, _, _, _, no⟩ := h
    exact no.elim
  | .ok .next, h => exact (h : False).elim
  | .ok .brk, h => exact (h : False).elim
  | .ok .cont, h => exact (h : False).elim
  | .ok (.ret u), h =>
    obtain ⟨v, H2, os2, bare2, ub, good2, rel, ev⟩ := h
    have ev : v = .bl true := ev
    rw [ev] at rel
    have eu : u = Value.bool true := rel
    rw [eu]
    refine ⟨rfl, OldK.of_keep fun b o e => ?_, os2, bare2⟩
    cases z : Hh b with
    | none => exact ub.keep b o e z (fun y => (nomatch y)) (fun y => by simp at y)
    | some t =>
      rcases only b with y | ⟨ob, xs, y⟩
      · rw [y] at z; cases z
      · obtain ⟨g1, _⟩ := good b _ y
        obtain ⟨g2, _⟩ := good2 b _ (ub.frzs b ob _ y)
        rw [g1] at e
        rw [← Option.some.inj e]
        exact g2
/-- the law's call -/
theorem law_on (kin : K.In s1.heap) (gns : s1.heap.Ns mainGlobals mg) (bns : s1.heap.Ns builtinsNs mb) (blt : ∀ y : PySem.Str, y ≠ "__name__" → mb y = bootBuiltins y) (nol : s1.heap.NoLimit) (ng : s1.gens = #[])
    (sc : s1.heap.get? a = some { cls := .type "list", data := .seq us.toArray }) (iv : IntsAre us ns) (hz : ns.length ≤ sizeLine) (room : L2.Room lv callerA) (FF : ∀ bs : Heap, K.In bs → bs.Ns mainGlobals mg → Gd P w K mg bs lv y [x] F) (hy : mg y = some (.ref fa))
    (ms : F.ms = [.sc]) (val : F.f [.list (ns.map PyData.int)] = some (.ok false (.bool true) [])) : codeAny (model P w) callerA (.call (.ref fa) ⟨[.ref a], []⟩) (Wish s1) s1 := by
  have rel := L2.vals_ints iv
  cases hk : K.lookup a with
  | some o =>
    have e := kin a o hk
    rw [sc] at e
    have e := Option.some.inj e
    rw [← e] at hk
    have inK : L2.SqL K (fun _ => none) a (ns.map L2.V.int) := .inr ⟨_, us.toArray, _, hk, rfl, rfl, rfl, by rw [List.size_toArray, iv.length]; exact hz, rel⟩
    exact law_at kin gns bns blt nol ng sc room FF hy ms val (fun _ => none) (fun _ => .inl rfl) inK (fun b v z => (nomatch z)) (fun b z => (z rfl).elim) fun z => (z rfl).elim
  | none =>
    let one : L2.HO := .frz { cls := .type "list", data := .seq us.toArray } (.lst (ns.map L2.V.int))
    have on : (fun b => if b = a then some one else none : L2.Hp) a = some one := if_pos rfl
    have off : ∀ b, b ≠ a → (fun b => if b = a then some one else none : L2.Hp) b = none := fun b n => if_neg n
    refine law_at kin gns bns blt nol ng sc room FF hy ms val (fun b => if b = a then some one else none) (fun b => ?_) (.inl (.inr ⟨_, on⟩)) (fun b v z => ?_) (fun b z => ?_) fun _ => hk
    · rcases Decidable.em (b = a) with e | e
      · exact .inr ⟨_, _, (congrArg (fun b => if b = a then some one else none : L2.Hp) e).trans on⟩
      · exact .inl (off b e)
    · rcases Decidable.em (b = a) with e | e
      · subst e
        rw [on] at z
        rw [← Option.some.inj z]
        exact ⟨sc, by rw [List.length_map]; exact hz, us, _, rel, sc⟩
      · rw [off b e] at z
        cases z
    · rcases Decidable.em (b = a) with e | e
      · exact e
      · exact (z (off b e)).elim
end
/-- a def that the top has written -/
def DefAt (K : Frag) (y : PySem.Str) (st : Stmt) : Prop := ∃ f fd, PySem.W.nsIn K mainGlobals y = some (some (.ref f)) ∧ PySem.W.keepIn K (.ref f) = true ∧ L2.Fun K y y st f fd
theorem defAt {K : Frag} {y : PySem.Str} {st : Stmt} {f : Addr} {od an : Option Addr} {sl : Array (Option Value)} {oc kV dc pm cd ct : Value} (h1 : PySem.W.nsIn K mainGlobals y = some (some (.ref f)))
    (h2 : K.lookup f = some ⟨oc, od, .func (PySem.W.fnOf y y (L2.defArgs st) (L2.defBody st) (L2.defScope st) .none kV dc pm an cd ct), sl⟩) (h3 : PySem.W.codeIn K cd y = true) (h4 : PySem.W.keepIn K (.ref f) = true) : DefAt K y st := ⟨f, _, h1, h4, L2.fun_mk h2 h3 h4⟩
/-- the law's row -/
theorem walk_fd {l : PySem.W.OpenLaw} {n lv : Nat} {q : Program} {loose : List PySem.Str} {XP : (PySem.Str → Option Value) → Heap → Prop} {YP : World → Heap → Prop} {d : DefRec} {K : Params → Frag} {x : PySem.Str} {F : Fc} (most : l.most = some n) (fits : n ≤ sizeLine) (nodef : d.params.defaults = [])
    (room : L2.Room lv callerA) (kin : ∀ (w : World) (h : Heap), YP w h → (K w.params).In h)
    (FF : ∀ (w : World) (mg : PySem.Str → Option Value) (h : Heap), (K w.params).In h → h.Ns mainGlobals mg → ∀ bs : Heap, (K w.params).In bs → bs.Ns mainGlobals mg → Gd l.prog w (K w.params) mg bs lv d.name [x] F)
    (ms : F.ms = [.sc]) (val : ∀ ns : List Int, ns.length ≤ n → F.f [.list (ns.map PyData.int)] = some (.ok false (.bool true) [])) :
    PySem.W.WalkO q loose XP YP l.row.toRowW d [] (fun f vs => PySem.call f vs) := by
  refine Att.attach_call most nodef fun w s0 s1 mg mb fa o pm cd doc a us ns G Y ho hd hcd hmg hobj iv hlen hg => ?_
  have k1 := kin w _ Y
  exact law_on k1 G.T.g G.T.b G.T.builtins G.T.nolimit hg hobj iv (Nat.le_trans hlen fits) room (FF w mg _ k1 G.T.g) hmg ms (val ns hlen)
end Fd
end
section
set_option maxRecDepth 100000
set_option maxHeartbeats 2000000
namespace Fd
open PySem PySem.Spec PyProof.Rows
/-- what a suite knows of the exception that it holds -/
structure Hx (mg : Str → Option Value) (i : Nat) (a : Addr) (cl : Value) (dd : Option Addr) (x : Exn) (B : Bs) : Prop where
  cls : mg x.cls = some cl
  pin : (i, a) ∈ B.pin
  pay : ∀ f d, x.pay = some (f, d) → ∃ b v, dd = some b ∧ (b, [(f, v)]) ∈ B.kp ∧ ∀ K : Frag, Rp K B.G0 v d → Rp K B.G0 v d
  nop : x.pay = none → dd = none
  ref : ∃ D, cl = .ref D
/-- the record that a suite looks at -/
def kpOf (dd : Option Addr) (H : Hp) : List (Addr × List (Str × V)) :=
  match dd with
  | none => []
  | some b => match H b with
    | some (.xd fs) => [(b, fs)]
    | _ => []
theorem kpOf_ok {dd : Option Addr} {H : Hp} {b : Addr} {fs : List (Str × V)} (h : (b, fs) ∈ kpOf dd H) : H b = some (.xd fs) := by
  unfold kpOf at h
  split at h
  · cases h
  · split at h
    · rename_i e
      have z := List.mem_singleton.mp h
      cases z
      exact e
    · cases h
theorem kpOf_in {H : Hp} {b : Addr} {fs : List (Str × V)} (h : H b = some (.xd fs)) : (b, fs) ∈ kpOf (some b) H := by
  unfold kpOf
  simp only [h]
  exact List.mem_singleton.mpr rfl
section
variable {T : Nat → Option Fc} {X : L2.Cx} {W : L2.WX} {B : Bs} {K : Frag} {G G' H H' : Hp} {σ σ' : L2.St} {Γ Γ' : Ev} {k : Kd} {d : Fd.D} {v : V} {r : R} {Q : L2.VK} {δ : Dl} {D : L2.Ends} {o : O} {pos : Pos}
theorem ss_try {b0 : Stmt} {body suite : List Stmt} {x n : Str} {i : Nat} {c : Value} {np pos' : Pos} {cb : Ss} {tb : List (Str × Bool)} {h : Exn → Ss} (hs : X.stack = X.env :: X.outer) (hf : X.env.frame = some X.env.locals) (hN : X.N.Nodup) (hi : X.N[i]? = some n) (hln : X.env.kindOf n = some .local) (hc : L2.Names X x c) (tk : L2.Takes X W)
    (ht : ∀ y z, tb.lookup y = some z → ∀ C, X.mg y = some (.ref C) → PySem.W.exmOne X.K (.ref C) c = some z)
    (hb : ∀ (W' : L2.WX) (pn : List (Addr × Obj)) (xe : Value → Shared → Prop), L2.Takes (X.tr pn xe) W' → PassesOwn (model X.prog X.w) X.A X.env xe → SSs T (X.tr pn xe) W' B body cb)
    (hsu : ∀ (a : Addr) (oe : Obj) (cls : Value) (d : Option Addr) (pn : List (Addr × Obj)) (y : Exn) (B' : Bs), L2.Zc cls d oe → (∃ vs, oe.data = .fields vs) → Hx X.mg i a cls d y B' → (∀ f dat, y.pay = some (f, dat) → ∃ bb v, (bb, [(f, v)]) ∈ B'.kp ∧ d = some bb ∧ Rp X.K B'.G0 v dat) → SSs T (X.suite a ((a, oe) :: pn)) Wf B' (b0 :: suite) (h y)) :
    SS T X W B (.Try body [.ExceptHandler (some (.Name x np)) (some n) (b0 :: suite) pos'] [] [] pos) (.tryA cb tb i h) := by
  let ts : Addr → Value → Option Addr → L2.TS := fun a cls d D σ H => ∃ y B', Hx X.mg i a cls d y B' ∧ (∀ f dat, y.pay = some (f, dat) → ∃ bb v, (bb, [(f, v)]) ∈ B'.kp ∧ d = some bb ∧ Rp X.K B'.G0 v dat) ∧ tSu X Wf B' (evalSs T (h y)) D σ H
  refine ps_imp (L2.ps_try_as (tb := fun W' => tSu X W' B (evalSs T cb)) (ts := ts) (Wout := W) hs hf hN hi hln hc tk (fun W' pn xe t p => hb W' pn xe t p) fun a oe cls d pn hz hv => ?_) ?_
  · exact ⟨fun pins s σ H D I ⟨y, B', h1, h2, h3⟩ => (hsu a oe cls d pn y B' hz hv h1 h2).run pins s σ H D I h3⟩
  · rintro D σ H ⟨Γ, o, G, h0, ok, q⟩
    unfold evalS at h0
    split at h0
    · rename_i y Γ1 h1
      refine ⟨Γ, _, G, h1, ok, fun cls dd σ1 G1 H1 o1 e1 x1 => ?_⟩
      obtain ⟨C, m1, m2, m3⟩ := x1
      split at h0
      · rename_i hl
        refine ⟨true, by rw [m2]; exact ht _ _ hl C m1, fun _ a na => ?_, (fun z => Bool.noConfusion z)⟩
        split at h0
        · rename_i hn
          rw [Bool.and_eq_true, decide_eq_true_eq] at hn
          obtain ⟨hn, hlt⟩ := hn
          have self : (Γ1.set i .pin)[i]? = some .pin := List.getElem?_set_self hlt
          have selfσ : (σ1.set i (some (L2.V.ref a)))[i]? = some (some (L2.V.ref a)) := List.getElem?_set_self (by rw [o1.len]; exact hlt)
          have oth : ∀ j, j ≠ i → (Γ1.set i .pin)[j]? = Γ1[j]? := fun j z => List.getElem?_set_ne (Ne.symm z)
          have o2 : Ok B X.K G1 H1 (σ1.set i (some (.ref a))) (Γ1.set i .pin) := by
            refine o1.sw (vs := [i]) (by simp [o1.len]) (fun j hj => ?_) (fun j hj => ?_) fun j hj => ?_
            · have z : i ≠ j := fun e => hj (by simp [e])
              exact ⟨List.getElem?_set_ne z, List.getElem?_set_ne z⟩
            · have z : j = i := by simpa using hj
              subst z
              refine ⟨fun b d h => ?_, fun d h => ?_, fun ns h => ?_⟩ <;> (rw [self] at h; cases h)
            · have z : j = i := by simpa using hj
              subst z
              exact ⟨fun d => notOwn_of hn true d, notPin_of hn⟩
          let B' : Bs := { B with G0 := G1, pin := (i, a) :: B.pin, kp := kpOf dd H1 ++ B.kp }
          have o3 : Ok B' X.K G1 H1 (σ1.set i (some (.ref a))) (Γ1.set i .pin) := by
            refine ⟨o2.sub, o2.ro, o2.own, o2.inj, Ex.refl _, o2.keep, fun b u h g => g, o2.scr, o2.par, o2.len, fun j b hj => ?_, fun b fs hb => (List.mem_append.mp hb).elim kpOf_ok (o2.kp b fs)⟩
            rcases List.mem_cons.mp hj with z | z
            · cases z
              exact ⟨selfσ, self⟩
            · exact o2.pin j b z
          have pay : ∀ f dat, y.pay = some (f, dat) → ∃ bb v, (bb, [(f, v)]) ∈ B'.kp ∧ dd = some bb ∧ Rp X.K B'.G0 v dat := fun f dat e => by
            rw [e] at m3
            obtain ⟨bb, v, e1, e2, e3⟩ := m3
            exact ⟨bb, v, List.mem_append_left _ (by rw [e1]; exact kpOf_in e2), e1, e3⟩
          have hx : Hx X.mg i a cls dd y B' := by
            refine ⟨m1.trans (by rw [m2]), List.mem_cons_self, fun f d e => ?_, fun e => ?_, ⟨C, m2⟩⟩
            · obtain ⟨bb, v, g1, g2, g3⟩ := pay f d e
              exact ⟨bb, v, g2, g1, fun _ z => z⟩
            · rw [e] at m3
              exact m3
          -- back from the suite
          have back : ∀ {σ' : L2.St} {G' H' : Hp} {Γ2 : Ev} {s : Option V}, Ok B' X.K G' H' σ' Γ2 → Ok B X.K G' H' (σ'.set i s) (Γ2.set i .no) := fun {σ' G' H' Γ2 s} o => by
            obtain ⟨p1, p2⟩ := o.pin i a List.mem_cons_self
            have hlt2 := (List.getElem?_eq_some_iff.mp p2).1
            have sf : (Γ2.set i .no)[i]? = some .no := List.getElem?_set_self hlt2
            have ot : ∀ j, j ≠ i → (Γ2.set i .no)[j]? = Γ2[j]? := fun j z => List.getElem?_set_ne (Ne.symm z)
            have os : ∀ j, j ≠ i → (σ'.set i s)[j]? = σ'[j]? := fun j z => List.getElem?_set_ne (Ne.symm z)
            have ne : ∀ {j : Nat} {t : Slot}, (Γ2.set i .no)[j]? = some t → t ≠ .no → j ≠ i := fun {j t} h z e => by
              subst e
              rw [sf] at h
              exact z (Option.some.inj h).symm
            refine ⟨o.sub, fun j d h => ?_, fun j b d h => ?_, fun j l b c d e p h1 h2 h3 h4 => ?_, o1.exG.trans o.exG, o.keep, fun b u h g => o.thin b u h (o1.thin b u h g), fun j ns h => ?_, fun j p h => ?_, by simp [o.len], fun j b h => ?_, fun b fs h => o.kp b fs (List.mem_append_right _ h)⟩
            · have z := ne h (by intro z; cases z)
              rw [ot j z] at h; rw [os j z]; exact o.ro j d h
            · have z := ne h (by intro z; cases z)
              rw [ot j z] at h; rw [os j z]; exact o.own j b d h
            · have z1 := ne h1 (by intro z; cases z)
              have z2 := ne h2 (by intro z; cases z)
              rw [ot j z1] at h1
              rw [ot l z2] at h2
              rw [os j z1] at h3
              rw [os l z2] at h4
              exact o.inj j l b c d e p h1 h2 h3 h4
            · have z := ne h (by intro z; cases z)
              rw [ot j z] at h; rw [os j z]; exact o.scr j ns h
            · obtain ⟨h1, d, h2⟩ := o.par j p h
              have z : j ≠ i := fun e => by subst e; rw [p2] at h2; cases h2
              exact ⟨(os j z).trans h1, d, (ot j z).trans h2⟩
            · obtain ⟨h1, h2⟩ := o.pin j b (List.mem_cons_of_mem _ h)
              have z : j ≠ i := fun e => notPin_of hn (e ▸ (o1.pin j b h).2)
              exact ⟨(os j z).trans h1, (ot j z).trans h2⟩
          have same : ∀ {σ' : L2.St} {G' H' : Hp} {Γ2 : Ev}, Ok B' X.K G' H' σ' Γ2 → σ'.length = σ'.length := fun _ => rfl
          split at h0 <;> first | (cases h0; done) | skip
          · rename_i Γ2 h5
            cases h0
            exact ⟨y, B', hx, pay, _, _, G1, h5, o3, fun σ' G' H' o' e' => q _ G' H' (back o') (e1.trans e')⟩
          · rename_i Γ2 h5
            cases h0
            exact ⟨y, B', hx, pay, _, _, G1, h5, o3, fun σ' G' H' o' e' => q _ G' H' (back o') (e1.trans e')⟩
          · rename_i Γ2 h5
            cases h0
            exact ⟨y, B', hx, pay, _, _, G1, h5, o3, fun σ' G' H' o' e' => q _ G' H' (back o') (e1.trans e')⟩
          · rename_i f d Γ2 h5
            cases h0
            refine ⟨y, B', hx, pay, _, _, G1, h5, o3, fun v σ' G' H' o' e' r' => q v _ G' H' (back (s := none) o') (e1.trans e') ?_⟩
            exact r'
        · cases h0
      · rename_i hl
        cases h0
        exact ⟨false, by rw [m2]; exact ht _ _ hl C m1, (fun z => Bool.noConfusion z), fun _ => q cls dd σ1 G1 H1 o1 e1 ⟨C, m1, m2, m3⟩⟩
      · cases h0
    · rename_i hne
      refine ⟨Γ, o, G, h0, ok, ?_⟩
      cases o with
      | ex y Γ1 => exact absurd h0 (hne y Γ1)
      | nx Γ' => exact q
      | bk Γ' => exact q
      | ct Γ' => exact q
      | rt f d Γ' => exact q
end
end Fd
end
section
set_option maxRecDepth 100000
set_option maxHeartbeats 2000000
namespace Fd
open PySem PySem.Spec PyProof.Rows
/-! ### exceptions -/
structure ExK (K : Frag) (mg : Str → Option Value) (n : Str) (C : Addr) : Prop where
  at_ : mg n = some (.ref C)
  kp : PySem.W.keepIn K (.ref C) = true
  xs : PySem.W.subIn K (.ref C) (.type "BaseException") = some true
  tp : PySem.W.typeIn K (.ref C) = some (.type "type")
  hg : PySem.W.findIn K (.ref C) "__getattribute__" = some (some (.builtin "BaseException.__getattribute__"))
  hk : PySem.W.findIn K (.ref C) "__getattr__" = some none
  hd : PySem.W.hasDictIn K C = true
  ha : PySem.W.findIn K (.ref C) "__class__" = some (some (.builtin "object.__class__"))
  hn : PySem.W.specialIn K (.builtin "object.__class__") "__get__" = some (some (.builtin "getset_descriptor.__get__"))
  ht : PySem.W.takesIn K (.builtin "object.__class__") = some true
  hm : PySem.W.mroIn K C (.type "object") = some true
theorem ExK.c {K : Frag} {mg : Str → Option Value} {n : Str} {C : Addr} (h : ExK K mg n C) : L2.ExcC K C := ⟨h.hg, h.hk, h.xs, h.hd, h.ha, h.hn, h.ht, h.hm⟩
theorem kit_of {K : Frag} {mg : Str → Option Value} {n : Str} {C D : Addr} {b : Bool} (e : ExK K mg n C) (h : PySem.W.subIn K (.ref D) (.ref C) = some b) (hs : PySem.W.subIn K (.ref C) (.ref C) = some true) : PySem.W.kitOne K (.ref D) (.ref C) = some b := by
  unfold PySem.W.kitOne
  split
  · rename_i q
    have q : Value.ref D = Value.ref C := by simpa using q
    rw [q, hs] at h
    exact h
  · have i1 : ((PySem.W.clsIn K C).isSome && PySem.W.typeIn K (.ref C) == some (.type "type")) = true := by
      have := e.hd
      unfold PySem.W.hasDictIn at this
      rw [e.tp]
      cases q : PySem.W.clsIn K C with
      | none => rw [q] at this; simp at this
      | some _ => rfl
    unfold PySem.W.kitCls
    simp only [i1, if_true]
    exact h
theorem lk_nil {P : Str → Bool → Prop} : ∀ y z, ([] : List (Str × Bool)).lookup y = some z → P y z := fun y z h => by cases h
theorem lk_cons {P : Str → Bool → Prop} {n : Str} {b : Bool} {tl : List (Str × Bool)} (h : P n b) (r : ∀ y z, tl.lookup y = some z → P y z) : ∀ y z, ((n, b) :: tl).lookup y = some z → P y z := fun y z e => by
  rw [List.lookup_cons] at e
  split at e
  · rename_i q
    cases e
    have q : y = n := by simpa using q
    rw [q]
    exact h
  · exact r y z e
theorem lk_one {mg : Str → Option Value} {n : Str} {C : Addr} {F : Addr → Prop} (h : mg n = some (.ref C)) (f : F C) : ∀ D, mg n = some (.ref D) → F D := fun D e => by
  cases h.symm.trans e
  exact f
def isD (tb : List (Str × Bool)) (y : Exn) : D := match y.pay with
  | none => match tb.lookup y.cls with
    | some b => .bool b
    | none => .list []
  | some _ => .list []
def payD (y : Exn) : D := match y.pay with
  | some (_, d) => d
  | none => .list []
section
variable {T : Nat → Option Fc} {X : L2.Cx} {W : L2.WX} {B B' : Bs} {pos : Pos}
theorem pin_at {K : Frag} {G H : Hp} {σ : L2.St} {Γ : Ev} {mg : Str → Option Value} {i : Nat} {a : Addr} {cls : Value} {dd : Option Addr} {y : Exn} (hx : Hx mg i a cls dd y B') (o : Ok B' K G H σ Γ) : σ[i]? = some (some (.ref a)) := (o.pin i a hx.pin).1
theorem se_isx {a : Addr} {oe : Obj} {cls : Value} {dd : Option Addr} {pn : List (Addr × Obj)} {y : Exn} {i : Nat} {n x : Str} {C : Addr} {p p2 p3 : Pos} {tb : List (Str × Bool)} (hz : L2.Zc cls dd oe) (hf : ∃ vs, oe.data = .fields vs) (hx : Hx X.mg i a cls dd y B')
    (ht : ∀ y z, tb.lookup y = some z → ∀ D, X.mg y = some (.ref D) → L2.ExcC X.K D ∧ PySem.W.kitOne X.K (.ref D) (.ref C) = some z) (cl : ∃ D, cls = .ref D)
    (hg : L2.Gl X "isinstance") (hm : X.mg "isinstance" = none) (hv : L2.PE (X.suite a ((a, oe) :: pn)) (.Name n p2) (L2.tVar i)) (hC : L2.PE (X.suite a ((a, oe) :: pn)) (.Name x p3) (L2.tC (.ref C)))
    (he : starEach [.Name n p2, .Name x p3] X.env = (false, eval (.Name n p2) X.env) :: starEach [.Name x p3] X.env := by rfl) (he2 : starEach [.Name x p3] X.env = (false, eval (.Name x p3) X.env) :: starEach [] X.env := by rfl) (hpl : (backTo pos (starEach [.Name x p3] X.env)).any (·.1) = false := by rfl) :
    SE T (X.suite a ((a, oe) :: pn)) W B' (.Call (.Name "isinstance" p) [.Name n p2, .Name x p3] [] pos) (.con (isD tb y)) := by
  intro Γ r hr
  unfold evalE at hr
  split at hr
  · rename_i hfl
    cases hr
    have key : ∃ b, isD tb y = .bool b ∧ tb.lookup y.cls = some b ∧ y.pay = none := by
      unfold isD at hfl ⊢
      cases hp : y.pay with
      | some p => rw [hp] at hfl; cases hfl
      | none =>
        cases hl : tb.lookup y.cls with
        | none => rw [hp, hl] at hfl; cases hfl
        | some b => exact ⟨b, rfl, rfl, rfl⟩
    obtain ⟨b, e1, hb, hp⟩ := key
    rw [e1]
    have hp' := hx.nop hp
    subst hp'
    obtain ⟨D, rfl⟩ := cl
    obtain ⟨xc, kt⟩ := ht _ _ hb D hx.cls
    refine pe_imp (L2.pe_callB (L2.call_isE (pn := pn) xc hz hf) hg hm boot_isinstance (L2.pa_cons hv (L2.pa_cons hC L2.pa_nil he2) he) (by decide) (by decide) he hpl) fun σ H Q ⟨G, o, q⟩ => ?_
    exact ⟨.ref a, pin_at hx o, .ref C, .ref C, b, rfl, fun u h => h, kt, q.ro o (.bl b)⟩
  · cases hr
end
/-! ### defs -/
theorem Gd.mk {P : Program} {w : World} {K : Frag} {mg : Str → Option Value} {bs : Heap} {k : Nat} {x : Str} {ps : List Str} {N : List Str} {st : Stmt} {T : Nat → Option Fc} {ms : List Md} {c : Ss} (da : DefAt K x st) (hmg : ∀ f, PySem.W.nsIn K mainGlobals x = some (some (.ref f)) → mg x = some (.ref f)) (S : L2.FnScope N ps (L2.defScope st))
    (hb : ∀ f fd, L2.Fun K x x st f fd → L2.Binds K fd ps []) (hms : ms.length = ps.length) (hNl : ms.length ≤ N.length) (ho : ioOne ms = true)
    (body : ∀ (f : Addr) (cdv : Value) (A : Around) (outer : List Env) (s : Shared) (H : Hp) (E : L2.XK) (B : Bs), L2.Room k (A.deeper (envOfC x (L2.defScope st) s.heap.objs.size f cdv)) → A.guards = some [] →
      SSs T (L2.cxOf (L2.CX P w) P w K mg bs N x (L2.defScope st) f cdv A outer s H E) (fun cls d _ H => E cls d H) B (L2.defBody st) c) :
    Gd P w K mg bs (k + 1) x ps (fcOf T N.length ms c) := by
  obtain ⟨f, fd, h1, h2, F⟩ := da
  exact ⟨f, fd, hmg f h1, h2, hb f fd F, fnE F S hms hNl ho (body f)⟩
theorem Gd.mono {P : Program} {w : World} {K : Frag} {mg : Str → Option Value} {bs : Heap} {j k : Nat} {x : Str} {ps : List Str} {F : Fc} (h : Gd P w K mg bs j x ps F) (l : j ≤ k) : Gd P w K mg bs k x ps F := by
  obtain ⟨f, fd, h1, h2, h3, h4⟩ := h
  exact ⟨f, fd, h1, h2, h3, h4.mono l⟩
end Fd
end
section
set_option maxRecDepth 100000
set_option maxHeartbeats 2000000
namespace Fd
open PySem PySem.Spec PyProof.Rows
section
variable {T : Nat → Option Fc} {X : L2.Cx} {W : L2.WX} {B : Bs} {K : Frag} {G G' H H' : Hp} {σ σ' : L2.St} {Γ Γ' : Ev} {k : Kd} {d : Fd.D} {v : V} {r : R} {Q : L2.VK} {δ : Dl} {D : L2.Ends} {o : O} {pos : Pos}
def trsOf (kvs : List (Fd.D × Fd.D)) : List (L2.TE × L2.TE) := kvs.map fun p => (L2.tC (vD p.1), L2.tC (vD p.2))
theorem tPairs_of : ∀ {kvs : List (Fd.D × Fd.D)} {Q : List (V × V) → Hp → Prop}, Q (kvs.map fun p => (vD p.1, vD p.2)) H → L2.tPairs (trsOf kvs) σ H Q
  | [], Q, h => h
  | p :: r, Q, h => tPairs_of (kvs := r) (Q := fun ps H3 => Q ((vD p.1, vD p.2) :: ps) H3) h
theorem keyD_vD {ky : L2.Key} (h : keyD d = some ky) : vD d = L2.kV ky := by
  cases d <;> first | (cases h; rfl) | cases h
def keyOf (d : Fd.D) : L2.Key := (keyD d).getD (.inl 0)
theorem merge_rp : ∀ {kvs : List (Fd.D × Fd.D)} {acc : List (L2.Key × V)} {ds : List (Fd.D × Fd.D)}, kvs.all (fun p => (keyD p.1).isSome && flatD p.2) = true → RpK K G acc ds →
    RpK K G (L2.mergeK acc (kvs.map fun p => (keyOf p.1, vD p.2))) (kvs.foldl (fun acc p => match keyD p.1 with
      | some k => putD k p.2 acc
      | none => acc) ds)
  | [], acc, ds, _, h => h
  | p :: r, acc, ds, ha, h => by
    rw [List.all_cons, Bool.and_eq_true, Bool.and_eq_true] at ha
    obtain ⟨ky, hk⟩ := Option.isSome_iff_exists.mp ha.1.1
    have e : keyOf p.1 = ky := by unfold keyOf; rw [hk]; rfl
    have := merge_rp (kvs := r) (acc := L2.putK acc ky (vD p.2)) (ds := putD ky p.2 ds) ha.2 (h.put (Rp.vD ha.1.2))
    rw [List.map_cons, List.foldl_cons, hk, e]
    exact this
theorem se_dctc {kvs : List (Fd.D × Fd.D)} {keys : List (Option Expr)} {values : List Expr} (h : L2.PPs X pos keys values (trsOf kvs)) (hall : keys.all (·.isSome) = true) (hl : keys.length = values.length) (h0 : keys ≠ []) (h15 : keys.length ≤ 15) :
    SE T X W B (.Dict keys values pos) (.dctc kvs) := by
  intro Γ r hr
  unfold evalE at hr
  split at hr
  · rename_i hc
    cases hr
    simp only [Bool.and_eq_true, decide_eq_true_eq] at hc
    obtain ⟨⟨ha, hz⟩, _⟩ := hc
    refine pe_imp (L2.pe_disp h hall hl h0 h15) fun σ H Q ⟨G, o, q⟩ => fun p hp => tPairs_of ⟨L2.upd_same, kvs.map (fun p => (keyOf p.1, vD p.2)), ?_, by rw [List.length_map]; exact hz, ?_⟩
    · rw [List.map_map]
      refine List.map_congr_left fun z hz => ?_
      have z1 := List.all_eq_true.mp ha z hz
      rw [Bool.and_eq_true] at z1
      obtain ⟨ky, hk⟩ := Option.isSome_iff_exists.mp z1.1
      show (vD z.1, vD z.2) = (L2.kV (keyOf z.1), vD z.2)
      unfold keyOf
      rw [hk, keyD_vD hk]
      rfl
    · have e : L2.upd (L2.upd H p (.dK [])) p (.dK (L2.mergeK [] (kvs.map fun p => (keyOf p.1, vD p.2)))) = L2.upd H p (.dK (L2.mergeK [] (kvs.map fun p => (keyOf p.1, vD p.2)))) := by
        funext b
        by_cases z : b = p
        · subst z; rw [L2.upd_same, L2.upd_same]
        · rw [L2.upd_ne z, L2.upd_ne z, L2.upd_ne z]
      rw [e]
      exact q (.ref p) G _ (o.new hp) (Stp.new o hp) (Vl.newD o hp (merge_rp ha .nil)) fun _ z ez => by cases ez; exact hp
  · cases hr
theorem se_idxd (hc : Ctx X) {a b : Expr} {ca cb : E} (ha : SE T X W B a ca) (hb : SE T X W B b cb) (hs : L2.NoSl b := by exact fun _ _ => rfl) : SE T X W B (.Subscript a b pos) (.idxd ca cb) := by
  intro Γ r h
  unfold evalE at h
  have hu : X.A.units + 1 < cLine := by have := hc.un; omega
  rcases thn_some h with ⟨c, δ, h1, rfl⟩ | ⟨k1, d1, δ1, r', h1, h2, rfl⟩
  · exact pe_imp (L2.pe_dget hu (ha Γ _ h1) pe_no hs) fun σ H Q q => q
  · rcases thn_some h2 with ⟨c, δ, h3, rfl⟩ | ⟨k2, d2, δ2, r'', h3, h4, rfl⟩
    · refine pe_imp (L2.pe_dget hu (ha Γ _ h1) (hb _ _ h3) hs) fun σ H Q ⟨G, o, q⟩ => ?_
      exact ⟨G, o, fun v G1 H1 o1 s1 _ _ => ⟨G1, o1, Pst.pre q s1⟩⟩
    · split at h4
      · rename_i hk
        obtain ⟨d, h5, rfl⟩ := Option.map_eq_some_iff.mp h4
        refine pe_imp (L2.pe_dget hu (ha Γ _ h1) (hb _ _ h3) hs) fun σ H Q ⟨G, o, q⟩ => ?_
        refine ⟨G, o, fun v1 G1 H1 o1 s1 w1 _ => ⟨G1, o1, fun v2 G2 H2 o2 s2 w2 _ => ?_⟩⟩
        unfold idxdD at h5
        split at h5
        · rename_i kvs
          obtain ⟨ky, hky, hl⟩ := Option.bind_eq_some_iff.mp h5
          have w1' := w1.step o2 s2 hk
          have hd2 := keyD_of hky
          have rk : Rp X.K G2 v2 (kD ky) := by
            subst hd2
            exact w2.flat o2 (by cases ky <;> rfl)
          have e2 := rk.key
          -- the dict at hand
          have hd : ∃ a xs, v1 = .ref a ∧ H2 a = some (.dK xs) ∧ RpK X.K G2 xs kvs := by
            cases k1 with
            | ro => cases w1' with | dct h r => exact ⟨_, _, rfl, o2.sub _ _ h, r⟩
            | sc => obtain ⟨_, _, _, e, _⟩ := w1'; cases e
            | fr => obtain ⟨p, rfl, _, ⟨xs, h, r⟩, _⟩ := w1'; exact ⟨p, xs, rfl, h, r⟩
            | al i =>
              obtain ⟨⟨b, h⟩, h2⟩ := w1'
              obtain ⟨p, e, _, ⟨xs, r1, r2⟩, _⟩ := o2.own i b _ h
              rw [e] at h2
              cases h2
              exact ⟨p, xs, rfl, r1, r2⟩
          obtain ⟨a, xs, rfl, ha2, ra⟩ := hd
          obtain ⟨u, hu2, ru⟩ := ra.look hl
          refine ⟨a, u, rfl, ?_, ((Pst.pre q s1).pre s2).ro o2 ru⟩
          rw [e2, ← hu2]
          exact .k ha2
        · cases h5
      · cases h4
/-! ### xs[i] = v -/
def rSetB (K : Frag) : L2.TSet := fun o i v H Q => L2.rSetL o i v H Q ∨ L2.rSetD o i v H Q
theorem set_both (hu : X.A.units + 1 < cLine) : L2.PSet X (rSetB X.K) := fun pins s σ H o i v ov iv u Q I ro ri rv h => h.elim (L2.set_list pins s σ H o i v ov iv u Q I ro ri rv) (L2.set_dict hu pins s σ H o i v ov iv u Q I ro ri rv)
theorem ss_sub {i : Nat} {ob ix e : Expr} {cj ce : E} {p : Pos} (hc : Ctx X) (he : SE T X W B e ce) (ho : L2.PE X ob (L2.tVar i)) (hj : SE T X W B ix cj) (ha : ∀ v, assign (.Subscript ob ix p) X.env v = (do
      let ov ← holding [v] (eval ob X.env)
      let iv ← holding [v, ov] (eval ix X.env)
      standAt p
      holding [v, ov, iv] (setItem ov iv v)
      release [v, ov, iv] []) := by intro _; rfl) (hs : swapsWithSole [.Subscript ob ix p] e pos.line X.env = pure false := by rfl) (hw : swappedStores [.Subscript ob ix p] e X.env = pure none := by rfl)
    (h1 : (assignEach [.Subscript ob ix p] X.env).map (·.2) = [assign (.Subscript ob ix p) X.env] := by rfl) : SS T X W B (.Assign [.Subscript ob ix p] e pos) (.sub i cj ce) :=
  ps_imp (L2.ps_asg (pe_u he) (L2.pg_sub ho (pe_u hj) (set_both (by have := hc.un; omega)) ha) hs hw h1) fun D σ H ⟨Γ, o, G, h, ok, q⟩ => by
    unfold evalS at h
    refine thnS h ok q fun k d δ v G' H' _ h2 o' s' w' _ q' => ?_
    split at h2
    · rename_i hz
      obtain ⟨G2, o2, r2, e2⟩ := freeze0 o' hz w'
      split at h2
      · rename_i b0 d0 hi
        obtain ⟨p, hp, _⟩ := o2.own i b0 d0 hi
        refine ⟨.ref p, hp, ?_⟩
        refine thnS h2 o2 (q'.mono e2) fun k2 dj δ2 vj G3 H3 _ h3 o3 s3 w3 _ q3 => ?_
        split at h3
        · rename_i hi3 hev
          obtain ⟨at_, h4, rfl⟩ := Option.map_eq_some_iff.mp h3
          obtain ⟨p', hp', g, ⟨vs, hv, rv⟩, _⟩ := o3.own i _ _ hi3
          rw [hp] at hp'
          cases hp'
          rw [w3.int o3]
          refine .inl ⟨p, vs, _, at_, rfl, rfl, hv, by rw [rv.length]; exact h4, ?_⟩
          obtain ⟨o4, _⟩ := o3.mut (ob := .lst (vs.set at_ v)) (d' := .list (List.set _ at_ d)) hi3 hp ⟨_, L2.upd_same, rv.set at_ (r2.ex s3.exG)⟩
          exact q3 _ G3 _ o4 (Ex.refl _)
        · rename_i hi3 hev
          split at h3
          · rename_i hlen
            obtain ⟨ky, h4, rfl⟩ := Option.map_eq_some_iff.mp h3
            obtain ⟨p', hp', g, ⟨vs, hv, rv⟩, _⟩ := o3.own i _ _ hi3
            rw [hp] at hp'
            cases hp'
            have hd := keyD_of h4
            subst hd
            have ek := (w3.flat o3 (by cases ky <;> rfl)).key
            subst ek
            refine .inr ⟨p, _, rfl, .k hv (by rw [rv.length]; exact hlen), ?_⟩
            obtain ⟨o4, _⟩ := o3.mut (ob := .dK (L2.putK vs ky v)) (d' := .dict (putD ky d _)) hi3 hp ⟨_, L2.upd_same, rv.put (r2.ex s3.exG)⟩
            exact q3 _ G3 _ o4 (Ex.refl _)
          · cases h3
        · cases h3
      · cases h2
    · cases h2
end
end Fd
end
section
set_option maxRecDepth 100000
set_option maxHeartbeats 2000000
namespace Fd
open PySem PySem.Spec PyProof.Rows
theorem bl_len : bootBuiltins "len" = some (.builtin "len") := by decide +kernel
theorem bl_repr : bootBuiltins "repr" = some (.builtin "repr") := by decide +kernel
theorem bl_all : bootBuiltins "all" = some (.builtin "all") := by decide +kernel
theorem bl_any : bootBuiltins "any" = some (.builtin "any") := by decide +kernel
theorem bl_sum : bootBuiltins "sum" = some (.builtin "sum") := by decide +kernel
theorem bl_abs : bootBuiltins "abs" = some (.builtin "abs") := by decide +kernel
theorem bl_min : bootBuiltins "min" = some (.builtin "min") := by decide +kernel
theorem bl_max : bootBuiltins "max" = some (.builtin "max") := by decide +kernel
theorem bl_int : bootBuiltins "int" = some (.type "int") := by decide +kernel
theorem bl_bool : bootBuiltins "bool" = some (.type "bool") := by decide +kernel
theorem bl_str : bootBuiltins "str" = some (.type "str") := by decide +kernel
theorem bl_list : bootBuiltins "list" = some (.type "list") := by decide +kernel
theorem bl_tuple : bootBuiltins "tuple" = some (.type "tuple") := by decide +kernel
section
variable {T : Nat → Option Fc} {X : L2.Cx} {W : L2.WX} {B : Bs} {K : Frag} {G G' H H' : Hp} {σ σ' : L2.St} {Γ Γ' : Ev} {k : Kd} {d : Fd.D} {v : V} {r : R} {Q : L2.VK} {δ : Dl} {pos : Pos}
theorem takesF {X : L2.Cx} : L2.Takes X Wf := fun u s' h => by
  obtain ⟨_, _, _, _, _, _, _, _, _, _, _, _, _, _, _, _, w⟩ := h
  exact w.elim
theorem se_gci {x : Str} {n : Int} (hg : L2.Gl X x) (h : ∃ u, X.mg x = some u ∧ L2.RelV (.int n) u) (hd : (x == ("__debug__" : Str)) = false := by decide) : SE T X W B (.Name x pos) (.con (.int n)) := let ⟨_, h1, h2⟩ := h; se_con (L2.pe_glob hg h1 h2 hd)
theorem se_gcs {x : Str} {n : Str} (hg : L2.Gl X x) (h : ∃ u, X.mg x = some u ∧ L2.RelV (.str n) u) (hd : (x == ("__debug__" : Str)) = false := by decide) : SE T X W B (.Name x pos) (.con (.str n)) := let ⟨_, h1, h2⟩ := h; se_con (L2.pe_glob hg h1 h2 hd)
section
variable {o e : Expr} {co ce : E} {apos cpos : Pos} {name : Str}
theorem mtTy_append {k : Kd} {d : Fd.D} {Ty : String} (h : mtTy .append k d = some Ty) : Ty = "list" := by
  cases d <;> first | (cases k <;> first | (cases h; rfl) | cases h) | cases h
theorem mtTy_extend {k : Kd} {d : Fd.D} {Ty : String} (h : mtTy .extend k d = some Ty) : Ty = "list" := by
  cases d <;> first | (cases k <;> first | (cases h; rfl) | cases h) | cases h
theorem mtTy_pop {k : Kd} {d : Fd.D} {Ty : String} (h : mtTy .pop k d = some Ty) : Ty = "list" := by
  cases d <;> first | (cases k <;> first | (cases h; rfl) | cases h) | cases h
theorem mtTy_reverse {k : Kd} {d : Fd.D} {Ty : String} (h : mtTy .reverse k d = some Ty) : Ty = "list" := by
  cases d <;> first | (cases k <;> first | (cases h; rfl) | cases h) | cases h
theorem mtTy_join {k : Kd} {d : Fd.D} {Ty : String} (h : mtTy .join k d = some Ty) : Ty = "str" := by
  cases d <;> first | (cases h; rfl) | cases h
theorem mtTy_split {k : Kd} {d : Fd.D} {Ty : String} (h : mtTy .split k d = some Ty) : Ty = "str" := by
  cases d <;> first | (cases h; rfl) | cases h
theorem se_append (ho : SE T X W B o co) (ha : SA T X W B [e] (.cons ce .nil)) (hbase : attributeBase o "append" X.env (eval o X.env) = eval o X.env := by rfl)
    (hfew : ((backTo cpos (starEach [e] X.env)).all (fun x => !x.1) && (backToKw cpos (keywordEach [] X.env)).all (fun x => x.1.isSome) && decide ([e].length + ([] : List Keyword).length + (if ([] : List Keyword).isEmpty then 0 else 1) < 30)) = true := by rfl)
    (hline : (apos.endLine == cpos.line) = true := by rfl) (hs : starEach [e] X.env = (false, eval e X.env) :: starEach [] X.env := by rfl) (hplain : (backTo cpos (starEach [] X.env)).any (·.1) = false := by rfl) :
    SE T X W B (.Call (.Attribute o "append" apos) [e] [] cpos) (.mt .append co (.cons ce .nil)) :=
  se_muN rfl mtr_false (fun hp ho ha => L2.pe_bm PySem.F.plainAttrs_list PySem.F.slot_list_append PySem.F.type_list_append hp ho ha hbase hfew hline hs hplain) ho ha (fun _ _ _ h => mtTy_append h) op_append
theorem se_extend (ho : SE T X W B o co) (ha : SA T X W B [e] (.cons ce .nil)) (hbase : attributeBase o "extend" X.env (eval o X.env) = eval o X.env := by rfl)
    (hfew : ((backTo cpos (starEach [e] X.env)).all (fun x => !x.1) && (backToKw cpos (keywordEach [] X.env)).all (fun x => x.1.isSome) && decide ([e].length + ([] : List Keyword).length + (if ([] : List Keyword).isEmpty then 0 else 1) < 30)) = true := by rfl)
    (hline : (apos.endLine == cpos.line) = true := by rfl) (hs : starEach [e] X.env = (false, eval e X.env) :: starEach [] X.env := by rfl) (hplain : (backTo cpos (starEach [] X.env)).any (·.1) = false := by rfl) :
    SE T X W B (.Call (.Attribute o "extend" apos) [e] [] cpos) (.mt .extend co (.cons ce .nil)) :=
  se_muN rfl mtr_false (fun hp ho ha => L2.pe_bm PySem.F.plainAttrs_list PySem.F.slot_list_extend PySem.F.type_list_extend hp ho ha hbase hfew hline hs hplain) ho ha (fun _ _ _ h => mtTy_extend h) op_extend
theorem se_join (ho : SE T X W B o co) (ha : SA T X W B [e] (.cons ce .nil)) (hbase : attributeBase o "join" X.env (eval o X.env) = eval o X.env := by rfl)
    (hfew : ((backTo cpos (starEach [e] X.env)).all (fun x => !x.1) && (backToKw cpos (keywordEach [] X.env)).all (fun x => x.1.isSome) && decide ([e].length + ([] : List Keyword).length + (if ([] : List Keyword).isEmpty then 0 else 1) < 30)) = true := by rfl)
    (hline : (apos.endLine == cpos.line) = true := by rfl) (hs : starEach [e] X.env = (false, eval e X.env) :: starEach [] X.env := by rfl) (hplain : (backTo cpos (starEach [] X.env)).any (·.1) = false := by rfl) :
    SE T X W B (.Call (.Attribute o "join" apos) [e] [] cpos) (.mt .join co (.cons ce .nil)) :=
  se_mtN rfl mtr_false (fun hp ho ha => L2.pe_bm PySem.F.plainAttrs_str PySem.F.slot_str_join PySem.F.type_str_join hp ho ha hbase hfew hline hs hplain) ho ha (fun _ _ _ h => mtTy_join h) op_join
theorem se_split (ho : SE T X W B o co) (ha : SA T X W B [e] (.cons ce .nil)) (hbase : attributeBase o "split" X.env (eval o X.env) = eval o X.env := by rfl)
    (hfew : ((backTo cpos (starEach [e] X.env)).all (fun x => !x.1) && (backToKw cpos (keywordEach [] X.env)).all (fun x => x.1.isSome) && decide ([e].length + ([] : List Keyword).length + (if ([] : List Keyword).isEmpty then 0 else 1) < 30)) = true := by rfl)
    (hline : (apos.endLine == cpos.line) = true := by rfl) (hs : starEach [e] X.env = (false, eval e X.env) :: starEach [] X.env := by rfl) (hplain : (backTo cpos (starEach [] X.env)).any (·.1) = false := by rfl) :
    SE T X W B (.Call (.Attribute o "split" apos) [e] [] cpos) (.mt .split co (.cons ce .nil)) :=
  se_mtN rfl mtr_false (fun hp ho ha => L2.pe_bm PySem.F.plainAttrs_str PySem.F.slot_str_split PySem.F.type_str_split hp ho ha hbase hfew hline hs hplain) ho ha (fun _ _ _ h => mtTy_split h) op_split
theorem se_mu0 {m : Mt} {P : RMt → Prop} {e : Expr} (hm : muts m = true) (pf : P fun _ _ _ _ => False) (mk : ∀ {r : RMt} {to : L2.TE}, P r → L2.PE X o to → L2.PE X e (L2.tBM0 X.K "list" r to)) (ho : SE T X W B o co) (hT : ∀ k d Ty', mtTy m k d = some Ty' → Ty' = "list") (hF : OpU X W B P m) : SE T X W B e (.mt m co .nil) := by
  intro Γ r h
  unfold evalE at h
  rcases thn_some h with ⟨c, δ, h1, rfl⟩ | ⟨k1, d1, δ1, r', h1, h2, rfl⟩
  · exact pe_imp (mk pf (ho Γ _ h1)) fun σ H Q q => q
  · split at h2
    · cases h2
    · rename_i Ty' ht
      have ety := hT _ _ _ ht
      subst ety
      unfold evalA at h2
      simp only [hm, if_true] at h2
      split at h2
      · split at h2
        · rename_i i ds hk
          obtain ⟨⟨d, ds'⟩, h4, rfl⟩ := Option.map_eq_some_iff.mp h2
          obtain ⟨rr, hp, hr⟩ := hF ds [] d ds' h4
          refine pe_imp (mk hp (ho Γ _ h1)) fun σ H Q ⟨G, o, q⟩ => ?_
          refine ⟨G, o, fun v G1 H1 o1 s1 w1 _ => ⟨ty_of ht o1 w1, ?_⟩⟩
          obtain ⟨⟨b, hi⟩, hv⟩ := w1
          obtain ⟨p, hp2, g, ⟨ws, hw, rw'⟩, hb⟩ := o1.own i b _ hi
          have ev : v = .ref p := by
            rw [hp2] at hv
            exact (Option.some.inj (Option.some.inj hv)).symm
          subst ev
          refine hr _ σ G1 H1 p ws [] Q o1 hw rw' .nil fun z ws' rws rz => ?_
          obtain ⟨o3, s3⟩ := o1.mut (ob := .lst ws') (d' := .list ds') hi hp2 ⟨ws', L2.upd_same, rws⟩
          have es : sets i (apd Γ δ1) ds' = [(i, .own b (.list ds'))] := by unfold sets; rw [hi]
          have q2 := Pst.pre q s1
          have q2 : Pst X W B σ (apd Γ δ1) G1 H1 (.ok .ro d (sets i (apd Γ δ1) ds')) Q := q2
          rw [es] at q2
          exact q2 z G1 _ o3 s3 rz fun z => nomatch z
        · cases h2
      · cases h2
theorem se_pop (ho : SE T X W B o co) (hbase : attributeBase o "pop" X.env (eval o X.env) = eval o X.env := by rfl) (hline : (apos.endLine == cpos.line) = true := by rfl) :
    SE T X W B (.Call (.Attribute o "pop" apos) [] [] cpos) (.mt .pop co .nil) :=
  se_mu0 rfl mtr_false (fun hp ho => L2.pe_bm0 PySem.F.plainAttrs_list PySem.F.slot_list_pop PySem.F.type_list_pop hp ho hbase hline) ho (fun _ _ _ h => mtTy_pop h) op_pop
theorem se_reverse (ho : SE T X W B o co) (hbase : attributeBase o "reverse" X.env (eval o X.env) = eval o X.env := by rfl) (hline : (apos.endLine == cpos.line) = true := by rfl) :
    SE T X W B (.Call (.Attribute o "reverse" apos) [] [] cpos) (.mt .reverse co .nil) :=
  se_mu0 rfl mtr_false (fun hp ho => L2.pe_bm0 PySem.F.plainAttrs_list PySem.F.slot_list_reverse PySem.F.type_list_reverse hp ho hbase hline) ho (fun _ _ _ h => mtTy_reverse h) op_reverse
end
/-- a call of a def that the top has written -/
theorem se_gd {i lv : Nat} {F : Fc} {x : Str} {e : Expr} {es : List Expr} {cs : Es} {p pos : Pos} {ps : List Str} (g : Gd X.prog X.w X.K X.mg X.base lv x ps F) (hT : T i = some F) (hl : ps.length = (e :: es).length) (hr : L2.Room lv X.A) (hc : Ctx X)
    (hg : L2.Gl X x) (tk : L2.Takes X W) (ha : SA T X W B (e :: es) cs) (hbo : F.ms.all (fun m => match m with | .bo => false | _ => true) = true := by rfl) (hes : esLen cs = (e :: es).length := by rfl)
    (hdb : (x == ("__debug__" : Str)) = false := by decide) (he : starEach (e :: es) X.env = (false, eval e X.env) :: starEach es X.env := by rfl) (hpl : (backTo pos (starEach es X.env)).any (·.1) = false := by rfl) :
    SE T X W B (.Call (.Name x p) (e :: es) [] pos) (.call i cs) := by
  obtain ⟨f, fd, h1, h2, h3, h4⟩ := g
  rw [hl] at h4
  exact se_call hT h4 hr hc hg h1 h2 h3 tk ha hbo hes hdb he hpl
theorem Ctx.blk {s : Shared} {H : Hp} {scope : Scope} {ce : Env} {fp : List Addr} (h : Ctx X) : Ctx (X.blk s H scope ce fp) := ⟨h.un, h.gd⟩
theorem Ctx.tr {pn : List (Addr × Obj)} {xe : Value → Shared → Prop} (h : Ctx X) : Ctx (X.tr pn xe) := ⟨h.un, h.gd⟩
theorem Ctx.su {a : Addr} {pn : List (Addr × Obj)} (h : Ctx X) : Ctx (X.suite a pn) := ⟨h.un, h.gd⟩
theorem ctx_of {k : Nat} {A : Around} {env : Env} {X : L2.Cx} (hr : L2.Room k (A.deeper env)) (hg : A.guards = some []) (e : X.A = A.deeper env) : Ctx X := by
  refine ⟨?_, ?_⟩
  · rw [e]
    have := hr.un
    omega
  · rw [e]
    exact hg
end
end Fd
end
section
set_option maxRecDepth 100000
set_option maxHeartbeats 2000000
namespace Fd
open PySem
/-- there is a value, and then -/
def Exs {α : Type} (x : Option α) (Q : α → Prop) : Prop := ∃ a, x = some a ∧ Q a
@[simp] theorem exs_some {α : Type} (a : α) (Q : α → Prop) : Exs (some a) Q = Q a := by simp [Exs]
def boolX : D → Option Bool
  | .bool b => some b
  | _ => none
def intX : D → Option Int
  | .int b => some b
  | _ => none
def muX (m : Mt) (k : Kd) (d : D) (kds : List (Kd × D)) : Option (Nat × (D × List D)) :=
  match k, d with
  | .al i, .list ds => (muD m ds kds).map fun p => (i, p)
  | _, _ => none
def parX : List (Kd × D) → Option (D × D)
  | [(_, d), (_, e)] => some (d, e)
  | _ => none
def roX : Option Slot → Option D
  | some (.ro d) => some d
  | _ => none
theorem boolX_of {d : D} {b : Bool} (h : boolX d = some b) : d = .bool b := by
  cases d <;> first | (cases h; rfl) | cases h
theorem intX_of {d : D} {b : Int} (h : intX d = some b) : d = .int b := by
  cases d <;> first | (cases h; rfl) | cases h
theorem roX_of {s : Option Slot} {d : D} (h : roX s = some d) : s = some (.ro d) := by
  unfold roX at h
  split at h
  · cases h; rfl
  · cases h
theorem muX_of {m : Mt} {k : Kd} {d : D} {kds : List (Kd × D)} {r : Nat × (D × List D)} (h : muX m k d kds = some r) : ∃ i ds p, k = .al i ∧ d = .list ds ∧ muD m ds kds = some p ∧ r = (i, p) := by
  unfold muX at h
  split at h
  · obtain ⟨p, h1, h2⟩ := Option.map_eq_some_iff.mp h
    exact ⟨_, _, p, rfl, rfl, h1, h2.symm⟩
  · cases h
theorem parX_of {kds : List (Kd × D)} {r : D × D} (h : parX kds = some r) : ∃ k k', kds = [(k, r.1), (k', r.2)] := by
  unfold parX at h
  split at h
  · cases h; exact ⟨_, _, rfl⟩
  · cases h
mutual
/-- the evaluator, by what is wished behind it -/
def cE (T : Nat → Option Fc) : E → Ev → (Kd → D → Dl → Prop) → (Exn → Dl → Prop) → Prop
  | .var i, Γ, Q, _ => match Γ[i]? with
    | some (.ro d) => Q .ro d []
    | some (.own _ d) => Q (.al i) d []
    | some (.scr ns) => Q .sc (.list (ns.map PyData.int)) []
    | _ => False
  | .con d, _, Q, _ => flatD d = true ∧ Q .ro d []
  | .bin op a b, Γ, Q, X => cE T a Γ (fun k1 d1 δ1 => cE T b (apd Γ δ1) (fun k2 d2 δ2 => keeps δ2 k1 = true ∧ Exs (binD op k1 k2 d1 d2) fun p => Q p.1 p.2 (δ1 ++ δ2)) fun c δ => X c (δ1 ++ δ)) X
  | .cmp op a b, Γ, Q, X => cE T a Γ (fun k1 d1 δ1 => cE T b (apd Γ δ1) (fun k2 d2 δ2 => keeps δ2 k1 = true ∧ Exs (cmpD op k1 k2 d1 d2) fun p => Q .ro (.bool p) (δ1 ++ δ2)) fun c δ => X c (δ1 ++ δ)) X
  | .cmp2 o1 o2 a b c, Γ, Q, X => cE T a Γ (fun k1 d1 δ1 => cE T b (apd Γ δ1) (fun k2 d2 δ2 => keeps δ2 k1 = true ∧ Exs (cmpD o1 k1 k2 d1 d2) fun p =>
      if p = true then cE T c (apd (apd Γ δ1) δ2) (fun k3 d3 δ3 => keeps δ3 k2 = true ∧ Exs (cmpD o2 k2 k3 d2 d3) fun p => Q .ro (.bool p) (δ1 ++ (δ2 ++ δ3))) (fun c δ => X c (δ1 ++ (δ2 ++ δ))) else Q .ro (.bool false) (δ1 ++ δ2)) fun c δ => X c (δ1 ++ δ)) X
  | .and_ a b, Γ, Q, X => cE T a Γ (fun _ d1 δ1 => Exs (boolX d1) fun p => if p = true then cE T b (apd Γ δ1) (fun k d δ => Q k d (δ1 ++ δ)) (fun c δ => X c (δ1 ++ δ)) else Q .ro (.bool false) δ1) X
  | .or_ a b, Γ, Q, X => cE T a Γ (fun _ d1 δ1 => Exs (boolX d1) fun p => if p = true then Q .ro (.bool true) δ1 else cE T b (apd Γ δ1) (fun k d δ => Q k d (δ1 ++ δ)) (fun c δ => X c (δ1 ++ δ))) X
  | .not_ a, Γ, Q, X => cE T a Γ (fun _ d1 δ1 => Exs (truD d1) fun p => Q .ro (.bool !p) δ1) X
  | .tand a b, Γ, Q, X => cE T a Γ (fun _ d1 δ1 => Exs (truD d1) fun p => if p = true then cE T b (apd Γ δ1) (fun k d δ => Exs (truD d) fun p => Q .ro (.bool p) (δ1 ++ δ)) (fun c δ => X c (δ1 ++ δ)) else Q .ro (.bool false) δ1) X
  | .tor a b, Γ, Q, X => cE T a Γ (fun _ d1 δ1 => Exs (truD d1) fun p => if p = true then Q .ro (.bool true) δ1 else cE T b (apd Γ δ1) (fun k d δ => Exs (truD d) fun p => Q .ro (.bool p) (δ1 ++ δ)) (fun c δ => X c (δ1 ++ δ))) X
  | .un op a, Γ, Q, X => cE T a Γ (fun _ d1 δ1 => Exs (unD op d1) fun d => Q .ro d δ1) X
  | .ite c a b, Γ, Q, X => cE T c Γ (fun _ d1 δ1 => Exs (truD d1) fun p => if p = true then cE T a (apd Γ δ1) (fun k d δ => Q k d (δ1 ++ δ)) (fun c δ => X c (δ1 ++ δ)) else cE T b (apd Γ δ1) (fun k d δ => Q k d (δ1 ++ δ)) (fun c δ => X c (δ1 ++ δ))) X
  | .lst es, Γ, Q, X => cA T (fun _ => .fz) es Γ (fun kds δ => kds.length ≤ sizeLine ∧ Q .fr (.list (kds.map (·.2))) δ) X
  | .tup es, Γ, Q, X => cA T (fun _ => .fz) es Γ (fun kds δ => kds.length ≤ sizeLine ∧ Q .ro (.tuple (kds.map (·.2))) δ) X
  | .dctc kvs, _, Q, _ => (kvs.all (fun p => (keyD p.1).isSome && flatD p.2) && decide (kvs.length ≤ 15) && !kvs.isEmpty) = true ∧ Q .fr (.dict (dctD kvs)) []
  | .idx a b, Γ, Q, X => cE T a Γ (fun k1 d1 δ1 => cE T b (apd Γ δ1) (fun k2 d2 δ2 => keeps δ2 k1 = true ∧ Exs (idxD d1 d2) fun d => Q .ro d (δ1 ++ δ2)) fun c δ => X c (δ1 ++ δ)) X
  | .idxd a b, Γ, Q, X => cE T a Γ (fun k1 d1 δ1 => cE T b (apd Γ δ1) (fun k2 d2 δ2 => keeps δ2 k1 = true ∧ Exs (idxdD d1 d2) fun d => Q .ro d (δ1 ++ δ2)) fun c δ => X c (δ1 ++ δ)) X
  | .slc a lo hi, Γ, Q, X => cE T a Γ (fun k1 d1 δ1 => cE T lo (apd Γ δ1) (fun _ d2 δ2 => Exs (partD (isNop lo) d2) fun l => cE T hi (apd (apd Γ δ1) δ2) (fun _ d3 δ3 => (keeps δ2 k1 && keeps δ3 k1) = true ∧ Exs (partD (isNop hi) d3) fun h =>
      match d1 with
      | .str x => x.length ≤ sizeLine ∧ Q .ro (.str (L2.cutS x l h)) (δ1 ++ (δ2 ++ δ3))
      | .list ds => Q .fr (.list (cutD ds l h)) (δ1 ++ (δ2 ++ δ3))
      | _ => False) fun c δ => X c (δ1 ++ (δ2 ++ δ))) fun c δ => X c (δ1 ++ δ)) X
  | .nop, _, Q, _ => Q .ro .none []
  | .call f es, Γ, Q, X => Exs (T f) fun F => cA T (modeAt F.ms) es Γ (fun kds δ => Exs (F.f (kds.map (·.2))) fun r => match r with
      | .ok fresh d outs => Exs (outD (apd Γ δ) (ioIx (modeAt F.ms) kds) outs) fun δ' => Q (if fresh then .fr else .ro) d (δ ++ δ')
      | .ex c outs => Exs (outD (apd Γ δ) (ioIx (modeAt F.ms) kds) outs) fun δ' => X c (δ ++ δ')) X
  | .bi b es, Γ, Q, X => cA T (fun _ => .bo) es Γ (fun kds δ => Exs (biD b kds) fun p => Q p.1 p.2 δ) X
  | .mt m o es, Γ, Q, X => cE T o Γ (fun k1 d1 δ1 => (mtTy m k1 d1).isSome = true ∧ cA T (fun _ => mtMode m) es (apd Γ δ1) (fun kds δ2 => keeps δ2 k1 = true ∧
      if muts m = true then Exs (muX m k1 d1 kds) fun r => Q .ro r.2.1 (δ1 ++ (δ2 ++ sets r.1 (apd (apd Γ δ1) δ2) r.2.2))
      else Exs (mtD m d1 kds) fun p => Q p.1 p.2 (δ1 ++ δ2)) fun c δ => X c (δ1 ++ δ)) X
  | .rng1 a, Γ, Q, X => cE T a Γ (fun _ d1 δ1 => Exs (intX d1) fun n => okR n = true ∧ Q .ro (.list (rngD 0 n)) δ1) X
  | .rng2 a b, Γ, Q, X => cE T a Γ (fun k1 d1 δ1 => cE T b (apd Γ δ1) (fun _ d2 δ2 => Exs (intX d1) fun n => Exs (intX d2) fun m => (okR n && okR m && keeps δ2 k1) = true ∧ Q .ro (.list (rngD n m)) (δ1 ++ δ2)) fun c δ => X c (δ1 ++ δ)) X
  | .lc elt own tg it cond, Γ, Q, X => cE T it Γ (fun k1 d1 δ1 => Exs (itD d1) fun ds => (ds.length ≤ sizeLine ∧ (tgIx tg).all (fun j => own.contains j) = true) ∧ Exs (lcL (lcF T elt own tg cond) k1 ds (apd Γ δ1)) fun p => Q .fr (.list p.1) (δ1 ++ p.2)) X
def cA (T : Nat → Option Fc) (m : Nat → Md) : Es → Ev → (List (Kd × D) → Dl → Prop) → (Exn → Dl → Prop) → Prop
  | .nil, _, Q, _ => Q [] []
  | .cons e es, Γ, Q, X => cE T e Γ (fun k d δ => Exs (pass (apd Γ δ) (m 0) k d) fun p => cA T (fun n => m (n + 1)) es (apd Γ (δ ++ p.2)) (fun kds δ2 => keeps δ2 p.1 = true ∧ Q ((p.1, d) :: kds) (δ ++ p.2 ++ δ2)) fun c δ2 => X c (δ ++ p.2 ++ δ2)) X
end
/-- a loop's end, for which an invariant is told -/
structure Prot {α : Type} (Q : α → Prop) : Type where
def Exl {α : Type} (x : Option α) (Q : α → Prop) (_ : Prot Q) : Prop := ∃ a, x = some a ∧ Q a
@[simp] theorem exl_some {α : Type} (a : α) (Q : α → Prop) (h : Prot Q) : Exl (some a) Q h = Q a := by simp [Exl]
/-- simp reads from the head on -/
@[simp ↓] theorem exs_m {α : Type} (x : Option α) (Q : α → Prop) : Exs x Q = (match x with
    | some a => Q a
    | none => False) := by
  cases x <;> simp [Exs]
@[simp ↓] theorem cE_p0 {T : Nat → Option Fc}  (i : Nat) (Γ : Ev) (Q : Kd → D → Dl → Prop) (X : Exn → Dl → Prop) : cE T (.var i) Γ Q X = (match Γ[i]? with
    | some (.ro d) => Q .ro d []
    | some (.own _ d) => Q (.al i) d []
    | some (.scr ns) => Q .sc (.list (ns.map PyData.int)) []
    | _ => False) := by rw [cE]
@[simp ↓] theorem cE_p1 {T : Nat → Option Fc}  (d : D) (Γ : Ev) (Q : Kd → D → Dl → Prop) (X : Exn → Dl → Prop) : cE T (.con d) Γ Q X = (flatD d = true ∧ Q .ro d []) := by rw [cE]
@[simp ↓] theorem cE_p2 {T : Nat → Option Fc}  (op : Operator) (a b : E) (Γ : Ev) (Q : Kd → D → Dl → Prop) (X : Exn → Dl → Prop) : cE T (.bin op a b) Γ Q X = (cE T a Γ (fun k1 d1 δ1 => cE T b (apd Γ δ1) (fun k2 d2 δ2 => keeps δ2 k1 = true ∧ Exs (binD op k1 k2 d1 d2) fun p => Q p.1 p.2 (δ1 ++ δ2)) fun c δ => X c (δ1 ++ δ)) X) := by rw [cE]
@[simp ↓] theorem cE_p3 {T : Nat → Option Fc}  (op : CmpOp) (a b : E) (Γ : Ev) (Q : Kd → D → Dl → Prop) (X : Exn → Dl → Prop) : cE T (.cmp op a b) Γ Q X = (cE T a Γ (fun k1 d1 δ1 => cE T b (apd Γ δ1) (fun k2 d2 δ2 => keeps δ2 k1 = true ∧ Exs (cmpD op k1 k2 d1 d2) fun p => Q .ro (.bool p) (δ1 ++ δ2)) fun c δ => X c (δ1 ++ δ)) X) := by rw [cE]
@[simp ↓] theorem cE_p4 {T : Nat → Option Fc}  (o1 o2 : CmpOp) (a b c : E) (Γ : Ev) (Q : Kd → D → Dl → Prop) (X : Exn → Dl → Prop) : cE T (.cmp2 o1 o2 a b c) Γ Q X = (cE T a Γ (fun k1 d1 δ1 => cE T b (apd Γ δ1) (fun k2 d2 δ2 => keeps δ2 k1 = true ∧ Exs (cmpD o1 k1 k2 d1 d2) fun p =>
      if p = true then cE T c (apd (apd Γ δ1) δ2) (fun k3 d3 δ3 => keeps δ3 k2 = true ∧ Exs (cmpD o2 k2 k3 d2 d3) fun p => Q .ro (.bool p) (δ1 ++ (δ2 ++ δ3))) (fun c δ => X c (δ1 ++ (δ2 ++ δ))) else Q .ro (.bool false) (δ1 ++ δ2)) fun c δ => X c (δ1 ++ δ)) X) := by rw [cE]
@[simp ↓] theorem cE_p5 {T : Nat → Option Fc}  (a b : E) (Γ : Ev) (Q : Kd → D → Dl → Prop) (X : Exn → Dl → Prop) : cE T (.and_ a b) Γ Q X = (cE T a Γ (fun _ d1 δ1 => Exs (boolX d1) fun p => if p = true then cE T b (apd Γ δ1) (fun k d δ => Q k d (δ1 ++ δ)) (fun c δ => X c (δ1 ++ δ)) else Q .ro (.bool false) δ1) X) := by rw [cE]
@[simp ↓] theorem cE_p6 {T : Nat → Option Fc}  (a b : E) (Γ : Ev) (Q : Kd → D → Dl → Prop) (X : Exn → Dl → Prop) : cE T (.or_ a b) Γ Q X = (cE T a Γ (fun _ d1 δ1 => Exs (boolX d1) fun p => if p = true then Q .ro (.bool true) δ1 else cE T b (apd Γ δ1) (fun k d δ => Q k d (δ1 ++ δ)) (fun c δ => X c (δ1 ++ δ))) X) := by rw [cE]
@[simp ↓] theorem cE_p7 {T : Nat → Option Fc}  (a : E) (Γ : Ev) (Q : Kd → D → Dl → Prop) (X : Exn → Dl → Prop) : cE T (.not_ a) Γ Q X = (cE T a Γ (fun _ d1 δ1 => Exs (truD d1) fun p => Q .ro (.bool !p) δ1) X) := by rw [cE]
@[simp ↓] theorem cE_p8 {T : Nat → Option Fc}  (a b : E) (Γ : Ev) (Q : Kd → D → Dl → Prop) (X : Exn → Dl → Prop) : cE T (.tand a b) Γ Q X = (cE T a Γ (fun _ d1 δ1 => Exs (truD d1) fun p => if p = true then cE T b (apd Γ δ1) (fun k d δ => Exs (truD d) fun p => Q .ro (.bool p) (δ1 ++ δ)) (fun c δ => X c (δ1 ++ δ)) else Q .ro (.bool false) δ1) X) := by rw [cE]
@[simp ↓] theorem cE_p9 {T : Nat → Option Fc}  (a b : E) (Γ : Ev) (Q : Kd → D → Dl → Prop) (X : Exn → Dl → Prop) : cE T (.tor a b) Γ Q X = (cE T a Γ (fun _ d1 δ1 => Exs (truD d1) fun p => if p = true then Q .ro (.bool true) δ1 else cE T b (apd Γ δ1) (fun k d δ => Exs (truD d) fun p => Q .ro (.bool p) (δ1 ++ δ)) (fun c δ => X c (δ1 ++ δ))) X) := by rw [cE]
@[simp ↓] theorem cE_p10 {T : Nat → Option Fc}  (op : UnaryOp) (a : E) (Γ : Ev) (Q : Kd → D → Dl → Prop) (X : Exn → Dl → Prop) : cE T (.un op a) Γ Q X = (cE T a Γ (fun _ d1 δ1 => Exs (unD op d1) fun d => Q .ro d δ1) X) := by rw [cE]
@[simp ↓] theorem cE_p11 {T : Nat → Option Fc}  (c a b : E) (Γ : Ev) (Q : Kd → D → Dl → Prop) (X : Exn → Dl → Prop) : cE T (.ite c a b) Γ Q X = (cE T c Γ (fun _ d1 δ1 => Exs (truD d1) fun p => if p = true then cE T a (apd Γ δ1) (fun k d δ => Q k d (δ1 ++ δ)) (fun c δ => X c (δ1 ++ δ)) else cE T b (apd Γ δ1) (fun k d δ => Q k d (δ1 ++ δ)) (fun c δ => X c (δ1 ++ δ))) X) := by rw [cE]
@[simp ↓] theorem cE_p12 {T : Nat → Option Fc}  (es : Es) (Γ : Ev) (Q : Kd → D → Dl → Prop) (X : Exn → Dl → Prop) : cE T (.lst es) Γ Q X = (cA T (fun _ => .fz) es Γ (fun kds δ => kds.length ≤ sizeLine ∧ Q .fr (.list (kds.map (·.2))) δ) X) := by rw [cE]
@[simp ↓] theorem cE_p13 {T : Nat → Option Fc}  (es : Es) (Γ : Ev) (Q : Kd → D → Dl → Prop) (X : Exn → Dl → Prop) : cE T (.tup es) Γ Q X = (cA T (fun _ => .fz) es Γ (fun kds δ => kds.length ≤ sizeLine ∧ Q .ro (.tuple (kds.map (·.2))) δ) X) := by rw [cE]
@[simp ↓] theorem cE_p14 {T : Nat → Option Fc}  (kvs : List (D × D)) (Γ : Ev) (Q : Kd → D → Dl → Prop) (X : Exn → Dl → Prop) : cE T (.dctc kvs) Γ Q X = ((kvs.all (fun p => (keyD p.1).isSome && flatD p.2) && decide (kvs.length ≤ 15) && !kvs.isEmpty) = true ∧ Q .fr (.dict (dctD kvs)) []) := by rw [cE]
@[simp ↓] theorem cE_p15 {T : Nat → Option Fc}  (a b : E) (Γ : Ev) (Q : Kd → D → Dl → Prop) (X : Exn → Dl → Prop) : cE T (.idx a b) Γ Q X = (cE T a Γ (fun k1 d1 δ1 => cE T b (apd Γ δ1) (fun k2 d2 δ2 => keeps δ2 k1 = true ∧ Exs (idxD d1 d2) fun d => Q .ro d (δ1 ++ δ2)) fun c δ => X c (δ1 ++ δ)) X) := by rw [cE]
@[simp ↓] theorem cE_p16 {T : Nat → Option Fc}  (a b : E) (Γ : Ev) (Q : Kd → D → Dl → Prop) (X : Exn → Dl → Prop) : cE T (.idxd a b) Γ Q X = (cE T a Γ (fun k1 d1 δ1 => cE T b (apd Γ δ1) (fun k2 d2 δ2 => keeps δ2 k1 = true ∧ Exs (idxdD d1 d2) fun d => Q .ro d (δ1 ++ δ2)) fun c δ => X c (δ1 ++ δ)) X) := by rw [cE]
@[simp ↓] theorem cE_p17 {T : Nat → Option Fc}  (a lo hi : E) (Γ : Ev) (Q : Kd → D → Dl → Prop) (X : Exn → Dl → Prop) : cE T (.slc a lo hi) Γ Q X = (cE T a Γ (fun k1 d1 δ1 => cE T lo (apd Γ δ1) (fun _ d2 δ2 => Exs (partD (isNop lo) d2) fun l => cE T hi (apd (apd Γ δ1) δ2) (fun _ d3 δ3 => (keeps δ2 k1 && keeps δ3 k1) = true ∧ Exs (partD (isNop hi) d3) fun h =>
      match d1 with
      | .str x => x.length ≤ sizeLine ∧ Q .ro (.str (L2.cutS x l h)) (δ1 ++ (δ2 ++ δ3))
      | .list ds => Q .fr (.list (cutD ds l h)) (δ1 ++ (δ2 ++ δ3))
      | _ => False) fun c δ => X c (δ1 ++ (δ2 ++ δ))) fun c δ => X c (δ1 ++ δ)) X) := by rw [cE]
@[simp ↓] theorem cE_p18 {T : Nat → Option Fc}   (Γ : Ev) (Q : Kd → D → Dl → Prop) (X : Exn → Dl → Prop) : cE T (.nop) Γ Q X = (Q .ro .none []) := by rw [cE]
@[simp ↓] theorem cE_p19 {T : Nat → Option Fc}  (f : Nat) (es : Es) (Γ : Ev) (Q : Kd → D → Dl → Prop) (X : Exn → Dl → Prop) : cE T (.call f es) Γ Q X = (Exs (T f) fun F => cA T (modeAt F.ms) es Γ (fun kds δ => Exs (F.f (kds.map (·.2))) fun r => match r with
      | .ok fresh d outs => Exs (outD (apd Γ δ) (ioIx (modeAt F.ms) kds) outs) fun δ' => Q (if fresh then .fr else .ro) d (δ ++ δ')
      | .ex c outs => Exs (outD (apd Γ δ) (ioIx (modeAt F.ms) kds) outs) fun δ' => X c (δ ++ δ')) X) := by rw [cE]
@[simp ↓] theorem cE_p20 {T : Nat → Option Fc}  (b : Bi) (es : Es) (Γ : Ev) (Q : Kd → D → Dl → Prop) (X : Exn → Dl → Prop) : cE T (.bi b es) Γ Q X = (cA T (fun _ => .bo) es Γ (fun kds δ => Exs (biD b kds) fun p => Q p.1 p.2 δ) X) := by rw [cE]
@[simp ↓] theorem cE_p21 {T : Nat → Option Fc}  (m : Mt) (o : E) (es : Es) (Γ : Ev) (Q : Kd → D → Dl → Prop) (X : Exn → Dl → Prop) : cE T (.mt m o es) Γ Q X = (cE T o Γ (fun k1 d1 δ1 => (mtTy m k1 d1).isSome = true ∧ cA T (fun _ => mtMode m) es (apd Γ δ1) (fun kds δ2 => keeps δ2 k1 = true ∧
      if muts m = true then Exs (muX m k1 d1 kds) fun r => Q .ro r.2.1 (δ1 ++ (δ2 ++ sets r.1 (apd (apd Γ δ1) δ2) r.2.2))
      else Exs (mtD m d1 kds) fun p => Q p.1 p.2 (δ1 ++ δ2)) fun c δ => X c (δ1 ++ δ)) X) := by rw [cE]
@[simp ↓] theorem cE_p22 {T : Nat → Option Fc}  (a : E) (Γ : Ev) (Q : Kd → D → Dl → Prop) (X : Exn → Dl → Prop) : cE T (.rng1 a) Γ Q X = (cE T a Γ (fun _ d1 δ1 => Exs (intX d1) fun n => okR n = true ∧ Q .ro (.list (rngD 0 n)) δ1) X) := by rw [cE]
@[simp ↓] theorem cE_p23 {T : Nat → Option Fc}  (a b : E) (Γ : Ev) (Q : Kd → D → Dl → Prop) (X : Exn → Dl → Prop) : cE T (.rng2 a b) Γ Q X = (cE T a Γ (fun k1 d1 δ1 => cE T b (apd Γ δ1) (fun _ d2 δ2 => Exs (intX d1) fun n => Exs (intX d2) fun m => (okR n && okR m && keeps δ2 k1) = true ∧ Q .ro (.list (rngD n m)) (δ1 ++ δ2)) fun c δ => X c (δ1 ++ δ)) X) := by rw [cE]
@[simp ↓] theorem cE_p24 {T : Nat → Option Fc}  (elt : E) (own : List Nat) (tg : Tg) (it cond : E) (Γ : Ev) (Q : Kd → D → Dl → Prop) (X : Exn → Dl → Prop) : cE T (.lc elt own tg it cond) Γ Q X = (cE T it Γ (fun k1 d1 δ1 => Exs (itD d1) fun ds => (ds.length ≤ sizeLine ∧ (tgIx tg).all (fun j => own.contains j) = true) ∧ Exs (lcL (lcF T elt own tg cond) k1 ds (apd Γ δ1)) fun p => Q .fr (.list p.1) (δ1 ++ p.2)) X) := by rw [cE]
@[simp ↓] theorem cA_p0 {T : Nat → Option Fc} {m : Nat → Md}  (Γ : Ev) (Q : List (Kd × D) → Dl → Prop) (X : Exn → Dl → Prop) : cA T m (.nil) Γ Q X = (Q [] []) := by rw [cA]
@[simp ↓] theorem cA_p1 {T : Nat → Option Fc} {m : Nat → Md} (e : E) (es : Es) (Γ : Ev) (Q : List (Kd × D) → Dl → Prop) (X : Exn → Dl → Prop) : cA T m (.cons e es) Γ Q X = (cE T e Γ (fun k d δ => Exs (pass (apd Γ δ) (m 0) k d) fun p => cA T (fun n => m (n + 1)) es (apd Γ (δ ++ p.2)) (fun kds δ2 => keeps δ2 p.1 = true ∧ Q ((p.1, d) :: kds) (δ ++ p.2 ++ δ2)) fun c δ2 => X c (δ ++ p.2 ++ δ2)) X) := by rw [cA]
def Rok (r : R) (Q : Kd → D → Dl → Prop) (X : Exn → Dl → Prop) : Prop := match r with
  | .ok k d δ => Q k d δ
  | .ex c δ => X c δ
def RAok (r : RA) (Q : List (Kd × D) → Dl → Prop) (X : Exn → Dl → Prop) : Prop := match r with
  | .ok k δ => Q k δ
  | .ex c δ => X c δ
/-- one step of a chain -/
theorem chain {o : Option R} {f : Kd → D → Dl → Option R} {Q : Kd → D → Dl → Prop} {X : Exn → Dl → Prop} {Q1 : Kd → D → Dl → Prop} (h : ∃ r, o = some r ∧ Rok r Q1 X) (g : ∀ k d δ, Q1 k d δ → ∃ r, f k d δ = some r ∧ Rok r (fun k' d' δ' => Q k' d' (δ ++ δ')) fun c δ' => X c (δ ++ δ')) : ∃ r, R.thn o f = some r ∧ Rok r Q X := by
  obtain ⟨r, rfl, h⟩ := h
  cases r with
  | ex c δ => exact ⟨_, rfl, h⟩
  | ok k d δ =>
    obtain ⟨r, h1, h2⟩ := g k d δ h
    refine ⟨r.pre δ, by show (f k d δ).map _ = _; rw [h1]; rfl, ?_⟩
    cases r <;> exact h2
theorem Rok.imp {r : R} {Q Q' : Kd → D → Dl → Prop} {X X' : Exn → Dl → Prop} (h : Rok r Q X) (i : ∀ k d δ, Q k d δ → Q' k d δ) (j : ∀ c δ, X c δ → X' c δ) : Rok r Q' X' := by
  cases r with
  | ok k d δ => exact i _ _ _ h
  | ex c δ => exact j _ _ h
theorem fin {k : Kd} {d : D} {f : Option R} {Q : Kd → D → Dl → Prop} {X : Exn → Dl → Prop} (e : f = some (.ok k d [])) (q : Q k d []) : ∃ r, f = some r ∧ Rok r Q X := ⟨_, e, q⟩
theorem fin' {k : Kd} {d : D} {δ : Dl} {f : Option R} {Q : Kd → D → Dl → Prop} {X : Exn → Dl → Prop} (e : f = some (.ok k d δ)) (q : Q k d δ) : ∃ r, f = some r ∧ Rok r Q X := ⟨_, e, q⟩
theorem finA {kds : List (Kd × D)} {δ : Dl} {f : Option RA} {Q : List (Kd × D) → Dl → Prop} {X : Exn → Dl → Prop} (e : f = some (.ok kds δ)) (q : Q kds δ) : ∃ r, f = some r ∧ RAok r Q X := ⟨_, e, q⟩
mutual
theorem cE_ok (T : Nat → Option Fc) : ∀ (e : E) (Γ : Ev) (Q : Kd → D → Dl → Prop) (X : Exn → Dl → Prop), cE T e Γ Q X → ∃ r, evalE T e Γ = some r ∧ Rok r Q X
  | .var i, Γ, Q, X, h => by
    unfold cE at h
    unfold evalE
    split at h
    · rename_i d e; exact fin' (by first | rw [e] | rfl) h
    · rename_i b d e; exact fin' (by first | rw [e] | rfl) h
    · rename_i ns e; exact fin' (by first | rw [e] | rfl) h
    · exact h.elim
  | .con d, Γ, Q, X, h => by
    unfold cE at h
    unfold evalE
    exact fin' (by rw [if_pos h.1]) h.2
  | .bin op a b, Γ, Q, X, h => by
    unfold cE at h
    unfold evalE
    refine chain (cE_ok T a _ _ _ h) fun k1 d1 δ1 h => chain (cE_ok T b _ _ _ h) fun k2 d2 δ2 ⟨hk, p, hp, q⟩ => ?_
    exact fin (by rw [if_pos hk, hp]; rfl) (by rw [List.append_nil]; exact q)
  | .cmp op a b, Γ, Q, X, h => by
    unfold cE at h
    unfold evalE
    refine chain (cE_ok T a _ _ _ h) fun k1 d1 δ1 h => chain (cE_ok T b _ _ _ h) fun k2 d2 δ2 ⟨hk, p, hp, q⟩ => ?_
    exact fin (by rw [if_pos hk, hp]; rfl) (by rw [List.append_nil]; exact q)
  | .cmp2 o1 o2 a b c, Γ, Q, X, h => by
    unfold cE at h
    unfold evalE
    refine chain (cE_ok T a _ _ _ h) fun k1 d1 δ1 h => chain (cE_ok T b _ _ _ h) fun k2 d2 δ2 ⟨hk, p, hp, q⟩ => ?_
    rw [if_pos hk, hp]
    cases p with
    | false => exact fin rfl (by rw [List.append_nil]; exact q)
    | true => exact chain (cE_ok T c _ _ _ q) fun k3 d3 δ3 ⟨hk, p, hp, q⟩ => fin (by rw [if_pos hk, hp]; rfl) (by rw [List.append_nil]; exact q)
  | .and_ a b, Γ, Q, X, h => by
    unfold cE at h
    unfold evalE
    refine chain (cE_ok T a _ _ _ h) fun k1 d1 δ1 ⟨p, e, q⟩ => ?_
    have e := boolX_of e
    subst e
    cases p with
    | false => exact fin rfl (by rw [List.append_nil]; exact q)
    | true => exact cE_ok T b _ _ _ q
  | .or_ a b, Γ, Q, X, h => by
    unfold cE at h
    unfold evalE
    refine chain (cE_ok T a _ _ _ h) fun k1 d1 δ1 ⟨p, e, q⟩ => ?_
    have e := boolX_of e
    subst e
    cases p with
    | true => exact fin rfl (by rw [List.append_nil]; exact q)
    | false => exact cE_ok T b _ _ _ q
  | .not_ a, Γ, Q, X, h => by
    unfold cE at h
    unfold evalE
    exact chain (cE_ok T a _ _ _ h) fun k1 d1 δ1 ⟨p, e, q⟩ => fin (by rw [e]; rfl) (by rw [List.append_nil]; exact q)
  | .tand a b, Γ, Q, X, h => by
    unfold cE at h
    unfold evalE
    refine chain (cE_ok T a _ _ _ h) fun k1 d1 δ1 ⟨p, e, q⟩ => ?_
    rw [e]
    cases p with
    | false => exact fin rfl (by rw [List.append_nil]; exact q)
    | true => exact chain (cE_ok T b _ _ _ q) fun k2 d2 δ2 ⟨p, e, q⟩ => fin (by rw [e]; rfl) (by rw [List.append_nil]; exact q)
  | .tor a b, Γ, Q, X, h => by
    unfold cE at h
    unfold evalE
    refine chain (cE_ok T a _ _ _ h) fun k1 d1 δ1 ⟨p, e, q⟩ => ?_
    rw [e]
    cases p with
    | true => exact fin rfl (by rw [List.append_nil]; exact q)
    | false => exact chain (cE_ok T b _ _ _ q) fun k2 d2 δ2 ⟨p, e, q⟩ => fin (by rw [e]; rfl) (by rw [List.append_nil]; exact q)
  | .un op a, Γ, Q, X, h => by
    unfold cE at h
    unfold evalE
    exact chain (cE_ok T a _ _ _ h) fun k1 d1 δ1 ⟨d, e, q⟩ => fin (by rw [e]; rfl) (by rw [List.append_nil]; exact q)
  | .ite c a b, Γ, Q, X, h => by
    unfold cE at h
    unfold evalE
    refine chain (cE_ok T c _ _ _ h) fun k1 d1 δ1 ⟨p, e, q⟩ => ?_
    rw [e]
    cases p with
    | true => exact cE_ok T a _ _ _ q
    | false => exact cE_ok T b _ _ _ q
  | .lst es, Γ, Q, X, h => by
    unfold cE at h
    unfold evalE
    obtain ⟨r, e, q⟩ := cA_ok T es _ _ _ _ h
    rw [e]
    cases r with
    | ex c δ => exact ⟨_, rfl, q⟩
    | ok kds δ => exact fin' (by simp only [if_pos q.1]) q.2
  | .tup es, Γ, Q, X, h => by
    unfold cE at h
    unfold evalE
    obtain ⟨r, e, q⟩ := cA_ok T es _ _ _ _ h
    rw [e]
    cases r with
    | ex c δ => exact ⟨_, rfl, q⟩
    | ok kds δ => exact fin' (by simp only [if_pos q.1]) q.2
  | .dctc kvs, Γ, Q, X, h => by
    unfold cE at h
    unfold evalE
    exact fin' (by rw [if_pos h.1]) h.2
  | .idx a b, Γ, Q, X, h => by
    unfold cE at h
    unfold evalE
    refine chain (cE_ok T a _ _ _ h) fun k1 d1 δ1 h => chain (cE_ok T b _ _ _ h) fun k2 d2 δ2 ⟨hk, p, hp, q⟩ => ?_
    exact fin (by rw [if_pos hk, hp]; rfl) (by rw [List.append_nil]; exact q)
  | .idxd a b, Γ, Q, X, h => by
    unfold cE at h
    unfold evalE
    refine chain (cE_ok T a _ _ _ h) fun k1 d1 δ1 h => chain (cE_ok T b _ _ _ h) fun k2 d2 δ2 ⟨hk, p, hp, q⟩ => ?_
    exact fin (by rw [if_pos hk, hp]; rfl) (by rw [List.append_nil]; exact q)
  | .slc a lo hi, Γ, Q, X, h => by
    unfold cE at h
    unfold evalE
    refine chain (cE_ok T a _ _ _ h) fun k1 d1 δ1 h => chain (cE_ok T lo _ _ _ h) fun k2 d2 δ2 ⟨l, hl, h⟩ => ?_
    rw [hl]
    refine chain (cE_ok T hi _ _ _ h) fun k3 d3 δ3 ⟨hk, hh, e, q⟩ => ?_
    rw [if_pos hk, e]
    cases d1 with
    | str x => exact ⟨.ok .ro (.str (L2.cutS x l hh)) [], by simp only [if_pos q.1], by show Q _ _ _; rw [List.append_nil]; exact q.2⟩
    | list ds => exact fin rfl (by rw [List.append_nil]; exact q)
    | _ => exact q.elim
  | .nop, Γ, Q, X, h => by
    unfold cE at h
    unfold evalE
    exact fin' rfl h
  | .call f es, Γ, Q, X, h => by
    unfold cE at h
    obtain ⟨F, hF, h⟩ := h
    unfold evalE
    rw [hF]
    obtain ⟨r, e, q⟩ := cA_ok T es _ _ _ _ h
    simp only [e]
    cases r with
    | ex c δ => exact ⟨_, rfl, q⟩
    | ok kds δ =>
      obtain ⟨fr, e2, q⟩ := q
      simp only [e2]
      cases fr with
      | ok fresh d outs =>
        obtain ⟨δ', e3, q⟩ := q
        simp only [e3]
        exact ⟨_, rfl, q⟩
      | ex c outs =>
        obtain ⟨δ', e3, q⟩ := q
        simp only [e3]
        exact ⟨_, rfl, q⟩
  | .bi b es, Γ, Q, X, h => by
    unfold cE at h
    unfold evalE
    obtain ⟨r, e, q⟩ := cA_ok T es _ _ _ _ h
    rw [e]
    cases r with
    | ex c δ => exact ⟨_, rfl, q⟩
    | ok kds δ =>
      obtain ⟨p, e2, q⟩ := q
      exact fin' (by simp only [e2]; rfl) q
  | .mt m o es, Γ, Q, X, h => by
    unfold cE at h
    unfold evalE
    refine chain (cE_ok T o _ _ _ h) fun k1 d1 δ1 ⟨hm, h⟩ => ?_
    obtain ⟨ty, ht⟩ := Option.isSome_iff_exists.mp hm
    rw [ht]
    obtain ⟨r, e, q⟩ := cA_ok T es _ _ _ _ h
    simp only [e]
    cases r with
    | ex c δ => exact ⟨_, rfl, q⟩
    | ok kds δ2 =>
      obtain ⟨hk, q⟩ := q
      simp only [if_pos hk]
      by_cases hmu : muts m = true
      · rw [if_pos hmu] at q
        obtain ⟨r, e3, q⟩ := q
        obtain ⟨i, ds, p, rfl, rfl, e2, rfl⟩ := muX_of e3
        simp only [if_pos hmu, e2]
        exact ⟨_, rfl, q⟩
      · rw [if_neg hmu] at q
        obtain ⟨p, e2, q⟩ := q
        simp only [if_neg hmu, e2]
        exact ⟨_, rfl, q⟩
  | .rng1 a, Γ, Q, X, h => by
    unfold cE at h
    unfold evalE
    refine chain (cE_ok T a _ _ _ h) fun k1 d1 δ1 ⟨n, e, hn, q⟩ => ?_
    have e := intX_of e
    subst e
    exact fin (d := .list (rngD 0 n)) (k := .ro) (by simp only [if_pos hn]) (by rw [List.append_nil]; exact q)
  | .rng2 a b, Γ, Q, X, h => by
    unfold cE at h
    unfold evalE
    refine chain (cE_ok T a _ _ _ h) fun k1 d1 δ1 h => chain (cE_ok T b _ _ _ h) fun k2 d2 δ2 ⟨n, e1, m, e2, hn, q⟩ => ?_
    have e1 := intX_of e1
    have e2 := intX_of e2
    subst e1; subst e2
    exact fin (d := .list (rngD n m)) (k := .ro) (by simp only [if_pos hn]) (by rw [List.append_nil]; exact q)
  | .lc elt own tg it cond, Γ, Q, X, h => by
    unfold cE at h
    rw [eval_lc]
    refine chain (cE_ok T it _ _ _ h) fun k1 d1 δ1 ⟨ds, e1, hc, ⟨os, δ⟩, e2, q⟩ => ?_
    rw [e1]
    simp only [if_pos hc, e2]
    exact ⟨_, rfl, q⟩
theorem cA_ok (T : Nat → Option Fc) : ∀ (es : Es) (m : Nat → Md) (Γ : Ev) (Q : List (Kd × D) → Dl → Prop) (X : Exn → Dl → Prop), cA T m es Γ Q X → ∃ r, evalA T m es Γ = some r ∧ RAok r Q X
  | .nil, m, Γ, Q, X, h => by
    unfold cA at h
    unfold evalA
    exact finA rfl h
  | .cons e es, m, Γ, Q, X, h => by
    unfold cA at h
    unfold evalA
    obtain ⟨r, e1, q⟩ := cE_ok T e _ _ _ h
    rw [e1]
    cases r with
    | ex c δ => exact ⟨_, rfl, q⟩
    | ok k d δ =>
      obtain ⟨p, e2, q⟩ := q
      simp only [e2]
      obtain ⟨r, e3, q⟩ := cA_ok T es _ _ _ _ q
      simp only [e3]
      cases r with
      | ex c δ2 => exact ⟨_, rfl, q⟩
      | ok kds δ2 => exact finA (by simp only [if_pos q.1]) q.2
end
/-! ### statements -/
mutual
def cS (T : Nat → Option Fc) : S → Ev → (O → Prop) → Prop
  | .pass, Γ, Q => Q (.nx Γ)
  | .asg tg e, Γ, Q => cE T e Γ (fun k d δ => Exs (asgV (apd Γ δ) k d tg) fun Γ2 => Q (.nx Γ2)) fun c δ => Q (.ex c (apd Γ δ))
  | .par i j es, Γ, Q => cA T (fun _ => .fz) es Γ (fun kds δ => Exs (parX kds) fun r => (setOk (apd Γ δ) i && setOk (apd Γ δ) j) = true ∧ Q (.nx (((apd Γ δ).set i (.ro r.1)).set j (.ro r.2)))) fun c δ => Q (.ex c (apd Γ δ))
  | .aug i op e, Γ, Q => Exs (roX Γ[i]?) fun a => cE T e Γ (fun _ d δ => setOk (apd Γ δ) i = true ∧ Exs (augD op a d) fun z => Q (.nx ((apd Γ δ).set i (.ro z)))) fun c δ => Q (.ex c (apd Γ δ))
  | .sub i j e, Γ, Q => Exs (evalS T (.sub i j e) Γ) Q
  | .ret e, Γ, Q => cE T e Γ (fun k d δ => Exs (retV (apd Γ δ) k d) Q) fun c δ => Q (.ex c (apd Γ δ))
  | .retN, Γ, Q => Q (.rt false .none Γ)
  | .exp e, Γ, Q => cE T e Γ (fun _ _ δ => Q (.nx (apd Γ δ))) fun c δ => Q (.ex c (apd Γ δ))
  | .ite c a b, Γ, Q => cE T c Γ (fun _ d δ => Exs (truD d) fun p => if p = true then cB T a (apd Γ δ) Q else cB T b (apd Γ δ) Q) fun c δ => Q (.ex c (apd Γ δ))
  | .for_ tg it b, Γ, Q => cE T it Γ (fun k d δ => Exs (itD d) fun ds => fzZ (apd Γ δ) k = true ∧ Exs (foL tg (fun Γ => evalSs T b Γ) ds (apd (apd Γ δ) (fz d k))) Q) fun c δ => Q (.ex c (apd Γ δ))
  | .whl n c b, Γ, Q => Exs (whL (evalE T c) (fun Γ => evalSs T b Γ) n Γ) Q
  | .brk, Γ, Q => Q (.bk Γ)
  | .cont, Γ, Q => Q (.ct Γ)
  | .raise c, Γ, Q => Q (.ex ⟨c, none⟩ Γ)
  | .raiseP c f e, Γ, Q => Exs (evalS T (.raiseP c f e) Γ) Q
  | .tryA b tb i h, Γ, Q => cB T b Γ fun o => match o with
    | .ex x Γ1 => Exs (tb.lookup x.cls) fun z => if z = true then (Fd.notOwn Γ1 i && decide (i < Γ1.length)) = true ∧ cB T (h x) (Γ1.set i .pin) (fun o => match o with
        | .nx Γ2 => Q (.nx (Γ2.set i .no))
        | .ct Γ2 => Q (.ct (Γ2.set i .no))
        | .bk Γ2 => Q (.bk (Γ2.set i .no))
        | .rt f d Γ2 => Q (.rt f d (Γ2.set i .no))
        | .ex _ _ => False) else Q (.ex x Γ1)
    | .nx Γ1 => Q (.nx Γ1)
    | .ct Γ1 => Q (.ct Γ1)
    | .bk Γ1 => Q (.bk Γ1)
    | .rt f d Γ1 => Q (.rt f d Γ1)
  | .never, _, _ => False
def cB (T : Nat → Option Fc) : Ss → Ev → (O → Prop) → Prop
  | .nil, Γ, Q => Q (.nx Γ)
  | .cons s r, Γ, Q => cS T s Γ fun o => match o with
    | .nx Γ1 => cB T r Γ1 Q
    | .ct Γ1 => Q (.ct Γ1)
    | .bk Γ1 => Q (.bk Γ1)
    | .rt f d Γ1 => Q (.rt f d Γ1)
    | .ex c Γ1 => Q (.ex c Γ1)
end
@[simp ↓] theorem cS_p0 {T : Nat → Option Fc}   (Γ : Ev) (Q : O → Prop) : cS T (.pass) Γ Q = (Q (.nx Γ)) := by rw [cS]
@[simp ↓] theorem cS_p1 {T : Nat → Option Fc}  (tg : Tg) (e : E) (Γ : Ev) (Q : O → Prop) : cS T (.asg tg e) Γ Q = (cE T e Γ (fun k d δ => Exs (asgV (apd Γ δ) k d tg) fun Γ2 => Q (.nx Γ2)) fun c δ => Q (.ex c (apd Γ δ))) := by rw [cS]
@[simp ↓] theorem cS_p2 {T : Nat → Option Fc}  (i j : Nat) (es : Es) (Γ : Ev) (Q : O → Prop) : cS T (.par i j es) Γ Q = (cA T (fun _ => .fz) es Γ (fun kds δ => Exs (parX kds) fun r => (setOk (apd Γ δ) i && setOk (apd Γ δ) j) = true ∧ Q (.nx (((apd Γ δ).set i (.ro r.1)).set j (.ro r.2)))) fun c δ => Q (.ex c (apd Γ δ))) := by rw [cS]
@[simp ↓] theorem cS_p3 {T : Nat → Option Fc}  (i : Nat) (op : Operator) (e : E) (Γ : Ev) (Q : O → Prop) : cS T (.aug i op e) Γ Q = (Exs (roX Γ[i]?) fun a => cE T e Γ (fun _ d δ => setOk (apd Γ δ) i = true ∧ Exs (augD op a d) fun z => Q (.nx ((apd Γ δ).set i (.ro z)))) fun c δ => Q (.ex c (apd Γ δ))) := by rw [cS]
@[simp ↓] theorem cS_p4 {T : Nat → Option Fc}  (i : Nat) (j e : E) (Γ : Ev) (Q : O → Prop) : cS T (.sub i j e) Γ Q = (Exs (evalS T (.sub i j e) Γ) Q) := by rw [cS]
@[simp ↓] theorem cS_p5 {T : Nat → Option Fc}  (e : E) (Γ : Ev) (Q : O → Prop) : cS T (.ret e) Γ Q = (cE T e Γ (fun k d δ => Exs (retV (apd Γ δ) k d) Q) fun c δ => Q (.ex c (apd Γ δ))) := by rw [cS]
@[simp ↓] theorem cS_p6 {T : Nat → Option Fc}   (Γ : Ev) (Q : O → Prop) : cS T (.retN) Γ Q = (Q (.rt false .none Γ)) := by rw [cS]
@[simp ↓] theorem cS_p7 {T : Nat → Option Fc}  (e : E) (Γ : Ev) (Q : O → Prop) : cS T (.exp e) Γ Q = (cE T e Γ (fun _ _ δ => Q (.nx (apd Γ δ))) fun c δ => Q (.ex c (apd Γ δ))) := by rw [cS]
@[simp ↓] theorem cS_p8 {T : Nat → Option Fc}  (c : E) (a b : Ss) (Γ : Ev) (Q : O → Prop) : cS T (.ite c a b) Γ Q = (cE T c Γ (fun _ d δ => Exs (truD d) fun p => if p = true then cB T a (apd Γ δ) Q else cB T b (apd Γ δ) Q) fun c δ => Q (.ex c (apd Γ δ))) := by rw [cS]
@[simp ↓] theorem cS_p9 {T : Nat → Option Fc}  (tg : Tg) (it : E) (b : Ss) (Γ : Ev) (Q : O → Prop) : cS T (.for_ tg it b) Γ Q = (cE T it Γ (fun k d δ => Exs (itD d) fun ds => fzZ (apd Γ δ) k = true ∧ Exl (foL tg (fun Γ => evalSs T b Γ) ds (apd (apd Γ δ) (fz d k))) Q ⟨⟩) fun c δ => Q (.ex c (apd Γ δ))) := by rw [cS]; rfl
@[simp ↓] theorem cS_p10 {T : Nat → Option Fc}  (n : Nat) (c : E) (b : Ss) (Γ : Ev) (Q : O → Prop) : cS T (.whl n c b) Γ Q = (Exl (whL (evalE T c) (fun Γ => evalSs T b Γ) n Γ) Q ⟨⟩) := by rw [cS]; rfl
@[simp ↓] theorem cS_p11 {T : Nat → Option Fc}   (Γ : Ev) (Q : O → Prop) : cS T (.brk) Γ Q = (Q (.bk Γ)) := by rw [cS]
@[simp ↓] theorem cS_p12 {T : Nat → Option Fc}   (Γ : Ev) (Q : O → Prop) : cS T (.cont) Γ Q = (Q (.ct Γ)) := by rw [cS]
@[simp ↓] theorem cS_p13 {T : Nat → Option Fc}  (c : Str) (Γ : Ev) (Q : O → Prop) : cS T (.raise c) Γ Q = (Q (.ex ⟨c, none⟩ Γ)) := by rw [cS]
@[simp ↓] theorem cS_p15 {T : Nat → Option Fc}  (b : Ss) (tb : List (Str × Bool)) (i : Nat) (h : Exn → Ss) (Γ : Ev) (Q : O → Prop) : cS T (.tryA b tb i h) Γ Q = (cB T b Γ fun o => match o with
    | .ex x Γ1 => Exs (tb.lookup x.cls) fun z => if z = true then (Fd.notOwn Γ1 i && decide (i < Γ1.length)) = true ∧ cB T (h x) (Γ1.set i .pin) (fun o => match o with
        | .nx Γ2 => Q (.nx (Γ2.set i .no))
        | .ct Γ2 => Q (.ct (Γ2.set i .no))
        | .bk Γ2 => Q (.bk (Γ2.set i .no))
        | .rt f d Γ2 => Q (.rt f d (Γ2.set i .no))
        | .ex _ _ => False) else Q (.ex x Γ1)
    | .nx Γ1 => Q (.nx Γ1)
    | .ct Γ1 => Q (.ct Γ1)
    | .bk Γ1 => Q (.bk Γ1)
    | .rt f d Γ1 => Q (.rt f d Γ1)) := by rw [cS]
@[simp ↓] theorem cS_p16 {T : Nat → Option Fc}   (Γ : Ev) (Q : O → Prop) : cS T (.never) Γ Q = (False) := by rw [cS]
theorem chS {Γ : Ev} {T : Nat → Option Fc} {e : E} {f : Kd → D → Ev → Option O} {Q1 : Kd → D → Dl → Prop} {Q : O → Prop} (h : cE T e Γ Q1 fun c δ => Q (.ex c (apd Γ δ))) (g : ∀ k d δ, Q1 k d δ → ∃ o, f k d (apd Γ δ) = some o ∧ Q o) : ∃ o, O.thn Γ (evalE T e Γ) f = some o ∧ Q o := by
  obtain ⟨r, e1, q⟩ := cE_ok T e _ _ _ h
  rw [e1]
  cases r with
  | ok k d δ => exact g k d δ q
  | ex c δ => exact ⟨_, rfl, q⟩
mutual
theorem cS_ok (T : Nat → Option Fc) : ∀ (s : S) (Γ : Ev) (Q : O → Prop), cS T s Γ Q → ∃ o, evalS T s Γ = some o ∧ Q o
  | .pass, Γ, Q, h => by unfold cS at h; unfold evalS; exact ⟨_, rfl, h⟩
  | .asg tg e, Γ, Q, h => by
    unfold cS at h; unfold evalS
    exact chS h fun k d δ ⟨Γ2, e, q⟩ => ⟨_, by rw [e]; rfl, q⟩
  | .par i j es, Γ, Q, h => by
    unfold cS at h; unfold evalS
    obtain ⟨r, e1, q⟩ := cA_ok T es _ _ _ _ h
    rw [e1]
    cases r with
    | ex c δ => exact ⟨_, rfl, q⟩
    | ok kds δ =>
      obtain ⟨⟨d, e⟩, e4, hs, q⟩ := q
      obtain ⟨k, k', rfl⟩ := parX_of e4
      exact ⟨_, by simp only [if_pos hs], q⟩
  | .aug i op e, Γ, Q, h => by
    unfold cS at h; unfold evalS
    obtain ⟨a, ha, h⟩ := h
    rw [roX_of ha]
    exact chS h fun k d δ ⟨hs, z, e, q⟩ => ⟨_, by rw [if_pos hs, e]; rfl, q⟩
  | .sub i j e, Γ, Q, h => by unfold cS at h; exact h
  | .ret e, Γ, Q, h => by
    unfold cS at h; unfold evalS
    exact chS h fun k d δ q => q
  | .retN, Γ, Q, h => by unfold cS at h; unfold evalS; exact ⟨_, rfl, h⟩
  | .exp e, Γ, Q, h => by
    unfold cS at h; unfold evalS
    exact chS h fun k d δ q => ⟨_, rfl, q⟩
  | .ite c a b, Γ, Q, h => by
    unfold cS at h; unfold evalS
    refine chS h fun k d δ ⟨p, e, q⟩ => ?_
    rw [e]
    cases p with
    | true => exact cB_ok T a _ _ q
    | false => exact cB_ok T b _ _ q
  | .for_ tg it b, Γ, Q, h => by
    unfold cS at h; unfold evalS
    refine chS h fun k d δ ⟨ds, e, hz, o, e2, q⟩ => ⟨o, ?_, q⟩
    rw [e]
    simp only [if_pos hz]
    exact e2
  | .whl n c b, Γ, Q, h => by unfold cS at h; unfold evalS; exact h
  | .brk, Γ, Q, h => by unfold cS at h; unfold evalS; exact ⟨_, rfl, h⟩
  | .cont, Γ, Q, h => by unfold cS at h; unfold evalS; exact ⟨_, rfl, h⟩
  | .raise c, Γ, Q, h => by unfold cS at h; unfold evalS; exact ⟨_, rfl, h⟩
  | .raiseP c f e, Γ, Q, h => by unfold cS at h; exact h
  | .tryA b tb i hh, Γ, Q, h => by
    unfold cS at h; unfold evalS
    obtain ⟨o, e, q⟩ := cB_ok T b _ _ h
    rw [e]
    cases o with
    | ex x Γ1 =>
      obtain ⟨z, e2, q⟩ := q
      simp only [e2]
      cases z with
      | false => exact ⟨_, rfl, q⟩
      | true =>
        obtain ⟨hn, q⟩ := q
        obtain ⟨o2, e3, q⟩ := cB_ok T (hh x) _ _ q
        simp only [if_pos hn, e3]
        cases o2 with
        | ex _ _ => exact q.elim
        | nx Γ2 => exact ⟨_, rfl, q⟩
        | bk Γ2 => exact ⟨_, rfl, q⟩
        | ct Γ2 => exact ⟨_, rfl, q⟩
        | rt f d Γ2 => exact ⟨_, rfl, q⟩
    | nx Γ2 => exact ⟨_, rfl, q⟩
    | bk Γ2 => exact ⟨_, rfl, q⟩
    | ct Γ2 => exact ⟨_, rfl, q⟩
    | rt f d Γ2 => exact ⟨_, rfl, q⟩
  | .never, Γ, Q, h => by unfold cS at h; exact h.elim
theorem cB_ok (T : Nat → Option Fc) : ∀ (s : Ss) (Γ : Ev) (Q : O → Prop), cB T s Γ Q → ∃ o, evalSs T s Γ = some o ∧ Q o
  | .nil, Γ, Q, h => by unfold cB at h; unfold evalSs; exact ⟨_, rfl, h⟩
  | .cons s r, Γ, Q, h => by
    unfold cB at h; unfold evalSs
    obtain ⟨o, e, q⟩ := cS_ok T s _ _ h
    rw [e]
    cases o with
    | nx Γ1 => exact cB_ok T r _ _ q
    | ex x Γ1 => exact ⟨_, rfl, q⟩
    | bk Γ2 => exact ⟨_, rfl, q⟩
    | ct Γ2 => exact ⟨_, rfl, q⟩
    | rt f d Γ2 => exact ⟨_, rfl, q⟩
end
/-- a def's worth, by what is wished -/
def Post (ms : List Md) (Q : FR → Prop) : O → Prop
  | .nx Γ => Q (.ok false .none (outsE ms Γ))
  | .rt f d Γ => Q (.ok f d (outsE ms Γ))
  | .ex c Γ => Q (.ex c (outsE ms Γ))
  | _ => False
theorem run_of {T : Nat → Option Fc} {n : Nat} {ms : List Md} {c : Ss} {ds : List D} {Γ0 : Ev} {Q : FR → Prop} (e : slotsOf ms ds = some Γ0) (h : cB T c (Γ0 ++ List.replicate (n - ms.length) .no) (Post ms Q)) : ∃ r, (fcOf T n ms c).f ds = some r ∧ Q r := by
  obtain ⟨o, e2, q⟩ := cB_ok T c _ _ h
  show ∃ r, runF T n ms c ds = some r ∧ Q r
  unfold runF
  rw [e]
  simp only [e2]
  cases o with
  | nx Γ => exact ⟨_, rfl, q⟩
  | rt f d Γ => exact ⟨_, rfl, q⟩
  | ex c Γ => exact ⟨_, rfl, q⟩
  | bk _ => exact q.elim
  | ct _ => exact q.elim
/-- .. where it is known -/
theorem run_is {T : Nat → Option Fc} {n : Nat} {ms : List Md} {c : Ss} {ds : List D} {Γ0 : Ev} {r : FR} (e : slotsOf ms ds = some Γ0) (h : cB T c (Γ0 ++ List.replicate (n - ms.length) .no) (Post ms fun r' => r' = r)) : (fcOf T n ms c).f ds = some r := by
  obtain ⟨r', h1, rfl⟩ := run_of e h
  exact h1
/-! ### loops -/
theorem foL_inv {tg : Tg} {b : Ev → Option O} (P : Nat → Ev → Prop) {Q : O → Prop} : ∀ {ds : List D} {i : Nat} {Γ : Ev}, P i Γ →
    (∀ j d Γ, ds[j]? = some d → P (i + j) Γ → ∃ Γ1, setTg Γ d tg = some Γ1 ∧ ∃ o, b Γ1 = some o ∧ match o with
      | .nx Γ' => P (i + j + 1) Γ'
      | .ct Γ' => P (i + j + 1) Γ'
      | .bk Γ' => Q (.nx Γ')
      | .rt f d Γ' => Q (.rt f d Γ')
      | .ex c Γ' => Q (.ex c Γ')) → (∀ Γ, P (i + ds.length) Γ → Q (.nx Γ)) → ∃ o, foL tg b ds Γ = some o ∧ Q o
  | [], i, Γ, p, _, h => ⟨_, rfl, h Γ p⟩
  | d :: ds, i, Γ, p, s, h => by
    obtain ⟨Γ1, e1, o, e2, q⟩ := s 0 d Γ rfl p
    have go : ∀ Γ', P (i + 1) Γ' → ∃ o, foL tg b ds Γ' = some o ∧ Q o := fun Γ' p' => foL_inv P (i := i + 1) p' (fun j d Γ hd hp => by
      have z := s (j + 1) d Γ (by simpa using hd) (by rw [show i + (j + 1) = i + 1 + j by omega]; exact hp)
      rw [show i + (j + 1) = i + 1 + j by omega] at z
      exact z) fun Γ hp => h Γ (by rw [List.length_cons, show i + (ds.length + 1) = i + 1 + ds.length by omega]; exact hp)
    unfold foL
    rw [e1]
    simp only [e2]
    cases o with
    | nx Γ' => exact go Γ' q
    | ct Γ' => exact go Γ' q
    | bk Γ' => exact ⟨_, rfl, q⟩
    | rt f d Γ' => exact ⟨_, rfl, q⟩
    | ex c Γ' => exact ⟨_, rfl, q⟩
/-- a comprehension that changes nothing -/
theorem lcL_map {g : Ev → D → Option (List D × Dl)} {k : Kd} {Γ : Ev} (f : D → List D) : ∀ {ds : List D}, (∀ d ∈ ds, g Γ d = some (f d, [])) → lcL g k ds Γ = some (ds.flatMap f, [])
  | [], _ => rfl
  | d :: ds, h => by
    unfold lcL
    rw [h d List.mem_cons_self]
    have hk : keeps [] k = true := by cases k <;> rfl
    have ih := lcL_map f (k := k) (Γ := Γ) (ds := ds) fun e he => h e (List.mem_cons_of_mem _ he)
    show (if keeps [] k = true then match lcL g k ds Γ with
      | some (r, δ') => some (f d ++ r, [] ++ δ')
      | none => none else none) = _
    rw [if_pos hk, ih]
    rfl
/-- .. that changes its context -/
theorem lcL_st {g : Ev → D → Option (List D × Dl)} {k : Kd} (P : Ev → Prop) (Q : List D → Prop) (step : ∀ Γ d, P Γ → ∃ v δ, g Γ d = some ([v], δ) ∧ keeps δ k = true ∧ P (apd Γ δ) ∧ Q [v]) (qn : Q []) (qa : ∀ a b, Q a → Q b → Q (a ++ b)) :
    ∀ {ds : List D} {Γ : Ev}, P Γ → ∃ vs δ, lcL g k ds Γ = some (vs, δ) ∧ vs.length = ds.length ∧ P (apd Γ δ) ∧ Q vs
  | [], Γ, p => ⟨[], [], rfl, rfl, p, qn⟩
  | d :: ds, Γ, p => by
    obtain ⟨v, δ, e, hk, p1, q1⟩ := step Γ d p
    obtain ⟨vs, δ2, e2, hl, p2, q2⟩ := lcL_st P Q step qn qa (ds := ds) p1
    refine ⟨v :: vs, δ ++ δ2, ?_, by simp [hl], by rw [apd_append]; exact p2, qa [v] vs q1 q2⟩
    unfold lcL
    rw [e]
    simp only [if_pos hk, e2]
    rfl
theorem cB_step {T : Nat → Option Fc} {s : S} {r : Ss} {Γ : Ev} {Q : O → Prop} (h : cS T s Γ fun o => match o with
    | .nx Γ1 => cB T r Γ1 Q
    | .ct Γ1 => Q (.ct Γ1)
    | .bk Γ1 => Q (.bk Γ1)
    | .rt f d Γ1 => Q (.rt f d Γ1)
    | .ex c Γ1 => Q (.ex c Γ1)) : cB T (.cons s r) Γ Q := by unfold cB; exact h
theorem cB_nil {T : Nat → Option Fc} {Γ : Ev} {Q : O → Prop} (h : Q (.nx Γ)) : cB T .nil Γ Q := by unfold cB; exact h
/-- one turn of a comprehension -/
def cL (T : Nat → Option Fc) (elt : E) (own : List Nat) (tg : Tg) (cond : E) (Γ : Ev) (d : D) (Z : List D → Dl → Prop) : Prop :=
  own.all (Fd.notOwn Γ) = true ∧ Exs (setTg (wipeE Γ own) d tg) fun Γ1 => cE T cond Γ1 (fun _ dc δc => Exs (truD dc) fun p =>
    if p = true then cE T elt (apd Γ1 δc) (fun k d δ => (fzOk (apd (apd Γ1 δc) δ) k && own.all (fun j => !hit (δc ++ (δ ++ fz d k)) j)) = true ∧ Z [d] (δc ++ (δ ++ fz d k))) (fun _ _ => False)
    else own.all (fun j => !hit δc j) = true ∧ Z [] δc) (fun _ _ => False)
theorem lcF_of {T : Nat → Option Fc} {elt cond : E} {own : List Nat} {tg : Tg} {Γ : Ev} {d : D} {Z : List D → Dl → Prop} (h : cL T elt own tg cond Γ d Z) : ∃ o δ, lcF T elt own tg cond Γ d = some (o, δ) ∧ Z o δ := by
  obtain ⟨hn, Γ1, e1, h⟩ := h
  obtain ⟨r, e2, q⟩ := cE_ok T cond _ _ _ h
  unfold lcF
  rw [if_pos hn, e1]
  simp only [e2]
  cases r with
  | ex c δ => exact q.elim
  | ok k dc δc =>
    obtain ⟨p, e3, q⟩ := q
    simp only [e3]
    cases p with
    | false =>
      obtain ⟨hm, q⟩ := q
      exact ⟨[], δc, by simp only [if_pos hm], q⟩
    | true =>
      obtain ⟨r, e4, q⟩ := cE_ok T elt _ _ _ q
      simp only [e4]
      cases r with
      | ex c δ => exact q.elim
      | ok k d δ =>
        obtain ⟨hm, q⟩ := q
        exact ⟨_, _, by simp only [if_pos hm], q⟩
theorem lc_map {T : Nat → Option Fc} {elt cond : E} {own : List Nat} {tg : Tg} {Γ : Ev} {k : Kd} {ds : List D} (f : D → List D) (h : ∀ d ∈ ds, cL T elt own tg cond Γ d fun o δ => o = f d ∧ δ = []) : lcL (lcF T elt own tg cond) k ds Γ = some (ds.flatMap f, []) :=
  lcL_map f fun d hd => by
    obtain ⟨o, δ, e, rfl, rfl⟩ := lcF_of (h d hd)
    exact e
theorem lc_mapG {α : Type} (g f : α → D) {T : Nat → Option Fc} {elt cond : E} {own : List Nat} {tg : Tg} {Γ : Ev} {k : Kd} : ∀ {xs : List α}, (∀ x ∈ xs, cL T elt own tg cond Γ (g x) fun o δ => o = [f x] ∧ δ = []) → lcL (lcF T elt own tg cond) k (xs.map g) Γ = some (xs.map f, [])
  | [], _ => rfl
  | x :: xs, h => by
    obtain ⟨o, δ, e, rfl, rfl⟩ := lcF_of (h x List.mem_cons_self)
    have ih := lc_mapG g f (k := k) (T := T) (elt := elt) (cond := cond) (own := own) (tg := tg) (Γ := Γ) (xs := xs) fun y hy => h y (List.mem_cons_of_mem _ hy)
    have hk : keeps [] k = true := by cases k <;> rfl
    show lcL _ k (g x :: xs.map g) Γ = _
    unfold lcL
    rw [e]
    have ih' : lcL (lcF T elt own tg cond) k (xs.map g) (apd Γ []) = some (xs.map f, []) := ih
    simp only [if_pos hk, ih']
    rfl
theorem bools_map {α : Type} (f : α → Bool) : ∀ xs : List α, boolsD (xs.map fun x => PyData.bool (f x)) = some (xs.map f)
  | [] => rfl
  | x :: xs => by show (boolsD (xs.map fun x => PyData.bool (f x))).map _ = _; rw [bools_map f xs]; rfl
theorem ints_map : ∀ xs : List Int, intsD (xs.map PyData.int) = some xs
  | [] => rfl
  | x :: xs => by show (intsD (xs.map PyData.int)).map _ = _; rw [ints_map xs]; rfl
theorem strs_map : ∀ xs : List Str, strsD (xs.map PyData.str) = some xs
  | [] => rfl
  | x :: xs => by show (strsD (xs.map PyData.str)).map _ = _; rw [strs_map xs]; rfl
theorem flat_map {α β : Type} (g : α → β) : ∀ xs : List α, xs.flatMap (fun x => [g x]) = xs.map g
  | [] => rfl
  | x :: xs => by rw [List.flatMap_cons, flat_map g xs]; rfl
@[simp] theorem eqv_int (a b : Int) : PyData.eqv (.int a) (.int b) = decide (a = b) := by
  by_cases h : a = b <;> simp [PyData.eqv, h]
@[simp] theorem eqv_str (a b : Str) : PyData.eqv (.str a) (.str b) = decide (a = b) := by
  by_cases h : a = b <;> simp [PyData.eqv, h]
@[simp] theorem shp_int (a : Int) : SeqAt.shaped (.int a) = true := by simp [SeqAt.shaped, PyData.canLay0, PyData.depth]
@[simp] theorem shp_str (a : Str) : SeqAt.shaped (.str a) = PyData.strOk a := by simp [SeqAt.shaped, PyData.canLay0, PyData.depth]
@[simp] theorem shp_none : SeqAt.shaped .none = true := by simp [SeqAt.shaped, PyData.canLay0, PyData.depth]
@[simp] theorem shp_bool (a : Bool) : SeqAt.shaped (.bool a) = true := by simp [SeqAt.shaped, PyData.canLay0, PyData.depth]
/-! ### slots that hold a datum or nothing -/
def sl : Option D → Slot
  | none => .no
  | some d => .ro d
def sOk : Slot → Bool
  | .own true _ => false
  | .pin => false
  | _ => true
@[simp] theorem sOk_sl (x : Option D) : sOk (sl x) = true := by cases x <;> rfl
@[simp] theorem sOk_ro (d : D) : sOk (.ro d) = true := rfl
@[simp] theorem sOk_no : sOk .no = true := rfl
@[simp] theorem sOk_of (d : D) : sOk (.own false d) = true := rfl
theorem setOk_eq (Γ : Ev) (i : Nat) : setOk Γ i = match Γ[i]? with
    | some s => sOk s
    | none => false := by
  unfold setOk
  cases Γ[i]? with
  | none => rfl
  | some s => cases s <;> first | rfl | (rename_i b d; cases b <;> rfl)
@[simp] theorem setOk_zero (s : Slot) (Γ : Ev) : setOk (s :: Γ) 0 = sOk s := by rw [setOk_eq]; rfl
@[simp] theorem setOk_succ (s : Slot) (Γ : Ev) (i : Nat) : setOk (s :: Γ) (i + 1) = setOk Γ i := by rw [setOk_eq, setOk_eq]; rfl
def nOk : Slot → Bool
  | .own _ _ => false
  | .pin => false
  | _ => true
@[simp] theorem nOk_sl (x : Option D) : nOk (sl x) = true := by cases x <;> rfl
@[simp] theorem nOk_ro (d : D) : nOk (.ro d) = true := rfl
@[simp] theorem nOk_no : nOk .no = true := rfl
theorem notOwn_eq (Γ : Ev) (i : Nat) : Fd.notOwn Γ i = match Γ[i]? with
    | some s => nOk s
    | none => false := by
  unfold Fd.notOwn
  cases Γ[i]? with
  | none => rfl
  | some s => cases s <;> rfl
@[simp] theorem notOwn_zero (s : Slot) (Γ : Ev) : Fd.notOwn (s :: Γ) 0 = nOk s := by rw [notOwn_eq]; rfl
@[simp] theorem notOwn_succ (s : Slot) (Γ : Ev) (i : Nat) : Fd.notOwn (s :: Γ) (i + 1) = Fd.notOwn Γ i := by rw [notOwn_eq, notOwn_eq]; rfl
theorem small_lit {i : Int} (h : -(2 ^ 64) < i) (h' : i < 2 ^ 64) : small i = true := by
  unfold small
  simp only [Bool.and_eq_true, decide_eq_true_eq]
  exact ⟨h, h'⟩
@[simp] theorem szl_1 : 1 ≤ sizeLine := by rw [PySem.sizeLine_eq]; omega
@[simp] theorem szl_2 : 2 ≤ sizeLine := by rw [PySem.sizeLine_eq]; omega
@[simp] theorem szl_3 : 3 ≤ sizeLine := by rw [PySem.sizeLine_eq]; omega
@[simp] theorem szl_4 : 4 ≤ sizeLine := by rw [PySem.sizeLine_eq]; omega
@[simp] theorem szl_5 : 5 ≤ sizeLine := by rw [PySem.sizeLine_eq]; omega
@[simp] theorem szl_6 : 6 ≤ sizeLine := by rw [PySem.sizeLine_eq]; omega
@[simp] theorem szl_7 : 7 ≤ sizeLine := by rw [PySem.sizeLine_eq]; omega
@[simp] theorem szl_8 : 8 ≤ sizeLine := by rw [PySem.sizeLine_eq]; omega
@[simp] theorem szl_9 : 9 ≤ sizeLine := by rw [PySem.sizeLine_eq]; omega
@[simp] theorem szl_10 : 10 ≤ sizeLine := by rw [PySem.sizeLine_eq]; omega
@[simp] theorem szl_11 : 11 ≤ sizeLine := by rw [PySem.sizeLine_eq]; omega
@[simp] theorem szl_12 : 12 ≤ sizeLine := by rw [PySem.sizeLine_eq]; omega
@[simp] theorem szl_13 : 13 ≤ sizeLine := by rw [PySem.sizeLine_eq]; omega
@[simp] theorem szl_14 : 14 ≤ sizeLine := by rw [PySem.sizeLine_eq]; omega
@[simp] theorem szl_15 : 15 ≤ sizeLine := by rw [PySem.sizeLine_eq]; omega
theorem eq_of {T : Nat → Option Fc} {b : Ss} {Γ : Ev} {v : O} (h : cB T b Γ fun o => o = v) : evalSs T b Γ = some v := by
  obtain ⟨o, e, rfl⟩ := cB_ok T b Γ _ h
  exact e
theorem lc_fm {α : Type} (g : α → D) (f : α → List D) {T : Nat → Option Fc} {elt cond : E} {own : List Nat} {tg : Tg} {Γ : Ev} {k : Kd} : ∀ {xs : List α}, (∀ x ∈ xs, cL T elt own tg cond Γ (g x) fun o δ => o = f x ∧ δ = []) → lcL (lcF T elt own tg cond) k (xs.map g) Γ = some (xs.flatMap f, [])
  | [], _ => rfl
  | x :: xs, h => by
    obtain ⟨o, δ, e, rfl, rfl⟩ := lcF_of (h x List.mem_cons_self)
    have ih := lc_fm g f (k := k) (T := T) (elt := elt) (cond := cond) (own := own) (tg := tg) (Γ := Γ) (xs := xs) fun y hy => h y (List.mem_cons_of_mem _ hy)
    have hk : keeps [] k = true := by cases k <;> rfl
    show lcL _ k (g x :: xs.map g) Γ = _
    unfold lcL
    rw [e]
    have ih' : lcL (lcF T elt own tg cond) k (xs.map g) (apd Γ []) = some (xs.flatMap f, []) := ih
    simp only [if_pos hk, ih']
    rfl
end Fd
end
section
set_option maxRecDepth 100000
set_option maxHeartbeats 4000000
namespace Fd.k00
open PySem PySem.Spec PyProof.Rows Fd
/-! the defs of foldfloor_k00_orders_and_words -/
def topS (i : Nat) : Stmt := PySem.Challenge.pw_foldfloor_k00_orders_and_words.main.body.getD i (.Pass ⟨0, 0, 0, 0⟩)
abbrev s_is_orders : Stmt := topS 9
def N_is_orders : List Str := ["orders", "order"]
def P_is_orders : List Str := ["orders"]
theorem S_is_orders : L2.FnScope N_is_orders P_is_orders (L2.defScope s_is_orders) := ⟨rfl, rfl, rfl, by decide +kernel, rfl, by decide +kernel, by decide +kernel⟩
def e1_is_orders : E := (.or_ (.cmp .Eq (.var 1) (.con (.int 0))) (.cmp2 .LtE .LtE (.con (.int 2)) (.var 1) (.con (.int 12))))
def b_is_orders : Ss := (.cons (.ret (.and_ (.cmp .Eq (.bi .len (.cons (.var 0) .nil)) (.con (.int 3))) (.bi .all (.cons (.lc e1_is_orders [1] (.nm 1) (.var 0) (.con (.bool true))) .nil)))) .nil)
abbrev s_check_orders : Stmt := topS 10
def N_check_orders : List Str := ["orders"]
def P_check_orders : List Str := ["orders"]
theorem S_check_orders : L2.FnScope N_check_orders P_check_orders (L2.defScope s_check_orders) := ⟨rfl, rfl, rfl, by decide +kernel, rfl, by decide +kernel, by decide +kernel⟩
def b_check_orders : Ss := (.cons (.ite (.not_ (.call 0 (.cons (.var 0) .nil))) (.cons (.raise "NotOrders") .nil) .nil) .nil)
abbrev s_check_letters : Stmt := topS 11
def N_check_letters : List Str := ["one", "other", "letter"]
def P_check_letters : List Str := ["one", "other"]
theorem S_check_letters : L2.FnScope N_check_letters P_check_letters (L2.defScope s_check_letters) := ⟨rfl, rfl, rfl, by decide +kernel, rfl, by decide +kernel, by decide +kernel⟩
def l1_check_letters : Ss := (.cons (.ite (.tor (.cmp .NotEq (.bi .len (.cons (.var 2) .nil)) (.con (.int 1))) (.cmp .NotIn (.var 2) (.con (.str "012")))) (.cons (.raise "NotWord") .nil) .nil) .nil)
def b_check_letters : Ss := (.cons (.for_ (.nm 2) (.tup (.cons (.var 0) (.cons (.var 1) .nil))) l1_check_letters) (.cons (.ite (.cmp .Eq (.var 0) (.var 1)) (.cons (.raise "NotWord") .nil) .nil) .nil))
abbrev s_order_between : Stmt := topS 12
def N_order_between : List Str := ["orders", "one", "other"]
def P_order_between : List Str := ["orders", "one", "other"]
theorem S_order_between : L2.FnScope N_order_between P_order_between (L2.defScope s_order_between) := ⟨rfl, rfl, rfl, by decide +kernel, rfl, by decide +kernel, by decide +kernel⟩
def b_order_between : Ss := (.cons (.ite (.cmp .NotIn (.con (.str "0")) (.bin .Add (.var 1) (.var 2))) (.cons (.ret (.idx (.var 0) (.con (.int 1)))) .nil) .nil) (.cons (.ite (.cmp .In (.con (.str "1")) (.bin .Add (.var 1) (.var 2))) (.cons (.ret (.idx (.var 0) (.con (.int 0)))) .nil) .nil) (.cons (.ret (.idx (.var 0) (.con (.int 2)))) .nil)))
abbrev s_order_of : Stmt := topS 13
def N_order_of : List Str := ["orders", "one", "other"]
def P_order_of : List Str := ["orders", "one", "other"]
theorem S_order_of : L2.FnScope N_order_of P_order_of (L2.defScope s_order_of) := ⟨rfl, rfl, rfl, by decide +kernel, rfl, by decide +kernel, by decide +kernel⟩
def b_order_of : Ss := (.cons (.exp (.call 1 (.cons (.var 0) .nil))) (.cons (.exp (.call 2 (.cons (.var 1) (.cons (.var 2) .nil)))) (.cons (.ret (.call 3 (.cons (.var 0) (.cons (.var 1) (.cons (.var 2) .nil))))) .nil)))
abbrev s_is_word : Stmt := topS 14
def N_is_word : List Str := ["word", "most", "letter"]
def P_is_word : List Str := ["word", "most"]
theorem S_is_word : L2.FnScope N_is_word P_is_word (L2.defScope s_is_word) := ⟨rfl, rfl, rfl, by decide +kernel, rfl, by decide +kernel, by decide +kernel⟩
def e1_is_word : E := (.cmp .In (.var 2) (.con (.str "012")))
def b_is_word : Ss := (.cons (.ret (.and_ (.cmp .LtE (.bi .len (.cons (.var 0) .nil)) (.var 1)) (.bi .all (.cons (.lc e1_is_word [2] (.nm 2) (.var 0) (.con (.bool true))) .nil)))) .nil)
abbrev s_check_word : Stmt := topS 15
def N_check_word : List Str := ["word"]
def P_check_word : List Str := ["word"]
theorem S_check_word : L2.FnScope N_check_word P_check_word (L2.defScope s_check_word) := ⟨rfl, rfl, rfl, by decide +kernel, rfl, by decide +kernel, by decide +kernel⟩
def b_check_word : Ss := (.cons (.ite (.not_ (.call 5 (.cons (.var 0) (.cons (.con (.int 60)) .nil)))) (.cons (.raise "NotWord") .nil) .nil) .nil)
abbrev s_kind_of : Stmt := topS 16
def N_kind_of : List Str := ["orders", "product", "order", "total"]
def P_kind_of : List Str := ["orders"]
theorem S_kind_of : L2.FnScope N_kind_of P_kind_of (L2.defScope s_kind_of) := ⟨rfl, rfl, rfl, by decide +kernel, rfl, by decide +kernel, by decide +kernel⟩
def e1_kind_of : E := (.bin .FloorDiv (.var 1) (.var 2))
def c2_kind_of : E := (.cmp .Gt (.var 2) (.con (.int 0)))
def l3_kind_of : Ss := (.cons (.ite (.cmp .Gt (.var 2) (.con (.int 0))) (.cons (.aug 1 .Mult (.var 2)) .nil) .nil) .nil)
def b_kind_of : Ss := (.cons (.exp (.call 1 (.cons (.var 0) .nil))) (.cons (.asg (.nm 1) (.con (.int 1))) (.cons (.for_ (.nm 2) (.var 0) l3_kind_of) (.cons (.asg (.nm 3) (.bi .sum (.cons (.lc e1_kind_of [2] (.nm 2) (.var 0) c2_kind_of) .nil))) (.cons (.ite (.cmp .Gt (.var 3) (.var 1)) (.cons (.ret (.con (.str "round"))) .nil) .nil) (.cons (.ite (.cmp .Eq (.var 3) (.var 1)) (.cons (.ret (.con (.str "flat"))) .nil) .nil) (.cons (.ret (.con (.str "wide"))) .nil)))))))
abbrev s__law_number : Stmt := topS 18
def N__law_number : List Str := ["cell"]
def P__law_number : List Str := ["cell"]
theorem S__law_number : L2.FnScope N__law_number P__law_number (L2.defScope s__law_number) := ⟨rfl, rfl, rfl, by decide +kernel, rfl, by decide +kernel, by decide +kernel⟩
def b__law_number : Ss := (.cons (.ite (.cmp .Lt (.var 0) (.con (.int 0))) (.cons (.ret (.bin .Sub (.con (.int 0)) (.var 0))) .nil) .nil) (.cons (.ret (.var 0)) .nil))
abbrev s__law_draws : Stmt := topS 19
def N__law_draws : List Str := ["script", "draws", "seed", "cell", "rest", "k", "once", "twice"]
def P__law_draws : List Str := ["script"]
theorem S__law_draws : L2.FnScope N__law_draws P__law_draws (L2.defScope s__law_draws) := ⟨rfl, rfl, rfl, by decide +kernel, rfl, by decide +kernel, by decide +kernel⟩
def l1__law_draws : Ss := (.cons (.asg (.nm 2) (.bin .Mod (.bi .int (.cons (.bin .Add (.bin .Mult (.var 2) (.con (.int 48271))) (.con (.int 12345))) .nil)) (.con (.int 2147483647)))) (.cons (.exp (.mt .append (.var 1) (.cons (.bin .Mod (.bi .int (.cons (.bin .FloorDiv (.var 2) (.con (.int 7))) .nil)) (.con (.int 1000))) .nil))) .nil))
def l2__law_draws : Ss := (.cons (.ite (.cmp .Eq (.var 4) (.con (.int 0))) (.cons .brk .nil) .nil) (.cons (.exp (.mt .append (.var 1) (.cons (.bin .Mod (.bi .int (.cons (.var 4) .nil)) (.con (.int 1000))) .nil))) (.cons (.asg (.nm 4) (.bin .FloorDiv (.var 4) (.con (.int 1000)))) .nil)))
def l3__law_draws : Ss := (.cons (.asg (.nm 4) (.call 8 (.cons (.var 3) .nil))) (.cons (.asg (.nm 2) (.bin .Mod (.bi .int (.cons (.bin .Add (.bin .Mult (.var 2) (.con (.int 48271))) (.var 4)) .nil)) (.con (.int 2147483647)))) (.cons (.ite (.cmp .GtE (.var 4) (.con (.int 1000000000000000000))) (.cons (.for_ (.nm 5) (.rng1 (.con (.int 60))) l2__law_draws) .nil) (.cons (.asg (.nm 6) (.bin .Mod (.bi .int (.cons (.bin .Add (.bin .Mult (.var 4) (.con (.int 48271))) (.con (.int 11))) .nil)) (.con (.int 2147483647)))) (.cons (.asg (.nm 7) (.bin .Mod (.bi .int (.cons (.bin .Add (.bin .Mult (.var 6) (.con (.int 69621))) (.var 4)) .nil)) (.con (.int 2147483629)))) (.cons (.exp (.mt .extend (.var 1) (.cons (.lst (.cons (.bin .Mod (.bi .int (.cons (.var 4) .nil)) (.con (.int 1000))) (.cons (.bin .Mod (.bi .int (.cons (.var 6) .nil)) (.con (.int 1000))) (.cons (.bin .Mod (.bi .int (.cons (.var 7) .nil)) (.con (.int 1000))) .nil)))) .nil))) .nil)))) .nil)))
def b__law_draws : Ss := (.cons (.asg (.nm 1) (.lst .nil)) (.cons (.asg (.nm 2) (.con (.int 7))) (.cons (.for_ (.nm 3) (.var 0) l3__law_draws) (.cons (.for_ (.nm 5) (.rng1 (.con (.int 200))) l1__law_draws) (.cons (.exp (.mt .reverse (.var 1) .nil)) (.cons (.ret (.var 1)) .nil))))))
abbrev s__law_draw : Stmt := topS 20
def N__law_draw : List Str := ["draws"]
def P__law_draw : List Str := ["draws"]
theorem S__law_draw : L2.FnScope N__law_draw P__law_draw (L2.defScope s__law_draw) := ⟨rfl, rfl, rfl, by decide +kernel, rfl, by decide +kernel, by decide +kernel⟩
def b__law_draw : Ss := (.cons (.ite (.var 0) (.cons (.ret (.mt .pop (.var 0) .nil)) .nil) .nil) (.cons (.ret (.con (.int 0))) .nil))
abbrev s__law_pick : Stmt := topS 21
def N__law_pick : List Str := ["draws", "many"]
def P__law_pick : List Str := ["draws", "many"]
theorem S__law_pick : L2.FnScope N__law_pick P__law_pick (L2.defScope s__law_pick) := ⟨rfl, rfl, rfl, by decide +kernel, rfl, by decide +kernel, by decide +kernel⟩
def b__law_pick : Ss := (.cons (.ret (.bin .Mod (.bi .int (.cons (.call 10 (.cons (.var 0) .nil)) .nil)) (.var 1))) .nil)
abbrev s__law_kind : Stmt := topS 22
def N__law_kind : List Str := ["orders", "order", "p", "q", "r", "total", "whole", "k"]
def P__law_kind : List Str := ["orders"]
theorem S__law_kind : L2.FnScope N__law_kind P__law_kind (L2.defScope s__law_kind) := ⟨rfl, rfl, rfl, by decide +kernel, rfl, by decide +kernel, by decide +kernel⟩
def l1__law_kind : Ss := (.cons (.ite (.cmp .Gt (.idx (.var 0) (.var 7)) (.con (.int 0))) (.cons (.asg (.nm 5) (.bin .Add (.var 5) (.bin .FloorDiv (.var 6) (.idx (.lst (.cons (.var 2) (.cons (.var 3) (.cons (.var 4) .nil)))) (.var 7))))) .nil) .nil) .nil)
def e2__law_kind : E := (.ite (.cmp .Gt (.var 1) (.con (.int 0))) (.var 1) (.con (.int 1000003)))
def b__law_kind : Ss := (.cons (.asg (.tl [2, 3, 4]) (.lc e2__law_kind [1] (.nm 1) (.var 0) (.con (.bool true)))) (.cons (.asg (.nm 5) (.con (.int 0))) (.cons (.asg (.nm 6) (.bin .Mult (.bin .Mult (.var 2) (.var 3)) (.var 4))) (.cons (.for_ (.nm 7) (.rng1 (.con (.int 3))) l1__law_kind) (.cons (.ite (.cmp .Gt (.var 5) (.var 6)) (.cons (.ret (.con (.str "round"))) .nil) .nil) (.cons (.ite (.cmp .Eq (.var 5) (.var 6)) (.cons (.ret (.con (.str "flat"))) .nil) .nil) (.cons (.ret (.con (.str "wide"))) .nil)))))))
abbrev s__law_told : Stmt := topS 23
def N__law_told : List Str := ["way", "orders", "one", "other", "e"]
def P__law_told : List Str := ["way", "orders", "one", "other"]
theorem S__law_told : L2.FnScope N__law_told P__law_told (L2.defScope s__law_told) := ⟨rfl, rfl, rfl, by decide +kernel, rfl, by decide +kernel, by decide +kernel⟩
def b__law_told : Ss := (.cons (.tryA (.cons (.ite (.cmp .Eq (.var 0) (.con (.int 0))) (.cons (.ret (.call 1 (.cons (.var 1) .nil))) .nil) .nil) (.cons (.ite (.cmp .Eq (.var 0) (.con (.int 1))) (.cons (.ret (.call 4 (.cons (.var 1) (.cons (.var 2) (.cons (.var 3) .nil))))) .nil) .nil) (.cons (.ite (.cmp .Eq (.var 0) (.con (.int 2))) (.cons (.ret (.call 7 (.cons (.var 1) .nil))) .nil) .nil) (.cons (.ret (.call 6 (.cons (.var 2) .nil))) .nil)))) [("NotOrders", true), ("NotWord", true)] 4 fun y => (.cons (.ite (.tand (.con (isD [("NotOrders", true), ("NotWord", false)] y)) (.not_ (.con (isD [("NotOrders", false), ("NotWord", false)] y)))) (.cons (.ret (.con (.str "orders"))) .nil) .nil) (.cons (.ite (.tand (.con (isD [("NotOrders", false), ("NotWord", true)] y)) (.not_ (.con (isD [("NotOrders", true), ("NotWord", false)] y)))) (.cons (.ret (.con (.str "word"))) .nil) .nil) (.cons (.ret (.con (.str "other"))) .nil)))) .nil)
abbrev s_law : Stmt := topS 24
def N_law : List Str := ["script", "draws", "count", "k", "orders", "good", "order", "one", "other", "due", "way", "word", "at", "letter"]
def P_law : List Str := ["script"]
theorem S_law : L2.FnScope N_law P_law (L2.defScope s_law) := ⟨rfl, rfl, rfl, by decide +kernel, rfl, by decide +kernel, by decide +kernel⟩
def e1_law : E := (.cmp .In (.var 13) (.con (.str "012")))
def e2_law : E := (.idx (.con (.str "012")) (.call 11 (.cons (.var 1) (.cons (.con (.int 3)) .nil))))
def e3_law : E := (.call 13 (.cons (.var 10) (.cons (.var 4) (.cons (.var 7) (.cons (.var 8) .nil)))))
def l4_law : Ss := (.cons (.asg (.nm 5) (.and_ (.var 5) (.or_ (.cmp .Eq (.var 6) (.con (.int 0))) (.cmp2 .LtE .LtE (.con (.int 2)) (.var 6) (.con (.int 12)))))) .nil)
def e5_law : E := (.idx (.lst (.cons (.con (.int 0)) (.cons (.con (.int 2)) (.cons (.con (.int 3)) (.cons (.con (.int 4)) (.cons (.con (.int 6)) (.cons (.con (.int 12)) .nil))))))) (.call 11 (.cons (.var 1) (.cons (.con (.int 6)) .nil))))
def e6_law : E := (.bin .Sub (.call 11 (.cons (.var 1) (.cons (.con (.int 15)) .nil))) (.con (.int 1)))
def b_law : Ss := (.cons (.asg (.nm 1) (.call 9 (.cons (.var 0) .nil))) (.cons (.asg (.nm 2) (.idx (.lst (.cons (.con (.int 3)) (.cons (.con (.int 3)) (.cons (.con (.int 3)) (.cons (.con (.int 3)) (.cons (.con (.int 3)) (.cons (.con (.int 2)) (.cons (.con (.int 4)) (.cons (.con (.int 3)) .nil))))))))) (.call 11 (.cons (.var 1) (.cons (.con (.int 8)) .nil))))) (.cons (.asg (.nm 4) (.bi .tuple (.cons (.lc e6_law [3] (.nm 3) (.rng1 (.var 2)) (.con (.bool true))) .nil))) (.cons (.ite (.cmp .Eq (.call 11 (.cons (.var 1) (.cons (.con (.int 2)) .nil))) (.con (.int 0))) (.cons (.asg (.nm 4) (.bi .tuple (.cons (.lc e5_law [3] (.nm 3) (.rng1 (.var 2)) (.con (.bool true))) .nil))) .nil) .nil) (.cons (.asg (.nm 5) (.cmp .Eq (.var 2) (.con (.int 3)))) (.cons (.for_ (.nm 6) (.var 4) l4_law) (.cons (.ite (.tor (.not_ (.bi .isbool (.cons (.call 0 (.cons (.var 4) .nil)) .nil))) (.cmp .NotEq (.call 0 (.cons (.var 4) .nil)) (.var 5))) (.cons (.ret (.con (.bool false))) .nil) .nil) (.cons (.asg (.nm 7) (.idx (.lst (.cons (.con (.str "0")) (.cons (.con (.str "1")) (.cons (.con (.str "2")) (.cons (.con (.str "0")) (.cons (.con (.str "1")) (.cons (.con (.str "2")) (.cons (.con (.str "")) (.cons (.con (.str "3")) (.cons (.con (.str "01")) .nil)))))))))) (.call 11 (.cons (.var 1) (.cons (.con (.int 9)) .nil))))) (.cons (.asg (.nm 8) (.idx (.lst (.cons (.con (.str "0")) (.cons (.con (.str "1")) (.cons (.con (.str "2")) (.cons (.con (.str "0")) (.cons (.con (.str "1")) (.cons (.con (.str "2")) (.cons (.con (.str "")) (.cons (.con (.str "x")) (.cons (.con (.str "22")) .nil)))))))))) (.call 11 (.cons (.var 1) (.cons (.con (.int 9)) .nil))))) (.cons (.asg (.nm 9) (.lst (.cons (.con (.str "orders")) (.cons (.con (.str "orders")) (.cons (.con (.str "orders")) .nil))))) (.cons (.ite (.var 5) (.cons (.asg (.nm 9) (.lst (.cons (.con .none) (.cons (.con (.str "word")) (.cons (.call 12 (.cons (.var 4) .nil)) .nil))))) (.cons (.ite (.tand (.cmp .In (.bin .Add (.var 7) (.var 8)) (.lst (.cons (.con (.str "01")) (.cons (.con (.str "10")) (.cons (.con (.str "12")) (.cons (.con (.str "21")) (.cons (.con (.str "02")) (.cons (.con (.str "20")) .nil)))))))) (.cmp .Eq (.bi .len (.cons (.var 7) .nil)) (.con (.int 1)))) (.cons (.sub 9 (.con (.int 1)) (.idx (.var 4) (.idxd (.dctc [((.str "01"), (.int 0)), ((.str "10"), (.int 0)), ((.str "12"), (.int 1)), ((.str "21"), (.int 1)), ((.str "02"), (.int 2)), ((.str "20"), (.int 2))]) (.bin .Add (.var 7) (.var 8))))) .nil) .nil) .nil)) .nil) (.cons (.ite (.cmp .NotEq (.bi .repr (.cons (.lc e3_law [10] (.nm 10) (.rng1 (.con (.int 3))) (.con (.bool true))) .nil)) (.bi .repr (.cons (.var 9) .nil))) (.cons (.ret (.con (.bool false))) .nil) .nil) (.cons (.asg (.nm 11) (.mt .join (.con (.str "")) (.cons (.lc e2_law [3] (.nm 3) (.rng1 (.call 11 (.cons (.var 1) (.cons (.con (.int 63)) .nil)))) (.con (.bool true))) .nil))) (.cons (.ite (.cmp .Eq (.call 11 (.cons (.var 1) (.cons (.con (.int 4)) .nil))) (.con (.int 0))) (.cons (.asg (.nm 12) (.call 11 (.cons (.var 1) (.cons (.bin .Add (.bi .len (.cons (.var 11) .nil)) (.con (.int 1))) .nil)))) (.cons (.asg (.nm 11) (.bin .Add (.bin .Add (.slc (.var 11) .nop (.var 12)) (.idx (.lst (.cons (.con (.str "3")) (.cons (.con (.str " ")) (.cons (.con (.str "a")) (.cons (.con (.str "-")) .nil))))) (.call 11 (.cons (.var 1) (.cons (.con (.int 4)) .nil))))) (.slc (.var 11) (.var 12) .nop))) .nil)) .nil) (.cons (.asg (.nm 9) (.con .none)) (.cons (.ite (.tor (.cmp .Gt (.bi .len (.cons (.var 11) .nil)) (.con (.int 60))) (.not_ (.bi .all (.cons (.lc e1_law [13] (.nm 13) (.var 11) (.con (.bool true))) .nil)))) (.cons (.asg (.nm 9) (.con (.str "word"))) .nil) .nil) (.cons (.ret (.cmp .Eq (.bi .repr (.cons (.call 13 (.cons (.con (.int 3)) (.cons (.var 4) (.cons (.var 11) (.cons (.con (.str "")) .nil))))) .nil)) (.bi .repr (.cons (.var 9) .nil)))) .nil)))))))))))))))))
def T_is_orders : Nat → Option Fc := fun _ => none
def F_is_orders : Fc := fcOf T_is_orders 2 [.fz] b_is_orders
theorem ms_is_orders : F_is_orders.ms = [.fz] := rfl
def T_check_orders : Nat → Option Fc | 0 => some F_is_orders | _ => none
def F_check_orders : Fc := fcOf T_check_orders 1 [.fz] b_check_orders
theorem ms_check_orders : F_check_orders.ms = [.fz] := rfl
def T_check_letters : Nat → Option Fc | 0 => some F_is_orders | 1 => some F_check_orders | _ => none
def F_check_letters : Fc := fcOf T_check_letters 3 [.fz, .fz] b_check_letters
theorem ms_check_letters : F_check_letters.ms = [.fz, .fz] := rfl
def T_order_between : Nat → Option Fc | 0 => some F_is_orders | 1 => some F_check_orders | 2 => some F_check_letters | _ => none
def F_order_between : Fc := fcOf T_order_between 3 [.fz, .fz, .fz] b_order_between
theorem ms_order_between : F_order_between.ms = [.fz, .fz, .fz] := rfl
def T_order_of : Nat → Option Fc | 0 => some F_is_orders | 1 => some F_check_orders | 2 => some F_check_letters | 3 => some F_order_between | _ => none
def F_order_of : Fc := fcOf T_order_of 3 [.fz, .fz, .fz] b_order_of
theorem ms_order_of : F_order_of.ms = [.fz, .fz, .fz] := rfl
def T_is_word : Nat → Option Fc | 0 => some F_is_orders | 1 => some F_check_orders | 2 => some F_check_letters | 3 => some F_order_between | 4 => some F_order_of | _ => none
def F_is_word : Fc := fcOf T_is_word 3 [.fz, .fz] b_is_word
theorem ms_is_word : F_is_word.ms = [.fz, .fz] := rfl
def T_check_word : Nat → Option Fc | 0 => some F_is_orders | 1 => some F_check_orders | 2 => some F_check_letters | 3 => some F_order_between | 4 => some F_order_of | 5 => some F_is_word | _ => none
def F_check_word : Fc := fcOf T_check_word 1 [.fz] b_check_word
theorem ms_check_word : F_check_word.ms = [.fz] := rfl
def T_kind_of : Nat → Option Fc | 0 => some F_is_orders | 1 => some F_check_orders | 2 => some F_check_letters | 3 => some F_order_between | 4 => some F_order_of | 5 => some F_is_word | 6 => some F_check_word | _ => none
def F_kind_of : Fc := fcOf T_kind_of 4 [.fz] b_kind_of
theorem ms_kind_of : F_kind_of.ms = [.fz] := rfl
def T__law_number : Nat → Option Fc | 0 => some F_is_orders | 1 => some F_check_orders | 2 => some F_check_letters | 3 => some F_order_between | 4 => some F_order_of | 5 => some F_is_word | 6 => some F_check_word | 7 => some F_kind_of | _ => none
def F__law_number : Fc := fcOf T__law_number 1 [.fz] b__law_number
theorem ms__law_number : F__law_number.ms = [.fz] := rfl
def T__law_draws : Nat → Option Fc | 0 => some F_is_orders | 1 => some F_check_orders | 2 => some F_check_letters | 3 => some F_order_between | 4 => some F_order_of | 5 => some F_is_word | 6 => some F_check_word | 7 => some F_kind_of | 8 => some F__law_number | _ => none
def F__law_draws : Fc := fcOf T__law_draws 8 [.sc] b__law_draws
theorem ms__law_draws : F__law_draws.ms = [.sc] := rfl
def T__law_draw : Nat → Option Fc | 0 => some F_is_orders | 1 => some F_check_orders | 2 => some F_check_letters | 3 => some F_order_between | 4 => some F_order_of | 5 => some F_is_word | 6 => some F_check_word | 7 => some F_kind_of | 8 => some F__law_number | 9 => some F__law_draws | _ => none
def F__law_draw : Fc := fcOf T__law_draw 1 [.io] b__law_draw
theorem ms__law_draw : F__law_draw.ms = [.io] := rfl
def T__law_pick : Nat → Option Fc | 0 => some F_is_orders | 1 => some F_check_orders | 2 => some F_check_letters | 3 => some F_order_between | 4 => some F_order_of | 5 => some F_is_word | 6 => some F_check_word | 7 => some F_kind_of | 8 => some F__law_number | 9 => some F__law_draws | 10 => some F__law_draw | _ => none
def F__law_pick : Fc := fcOf T__law_pick 2 [.io, .fz] b__law_pick
theorem ms__law_pick : F__law_pick.ms = [.io, .fz] := rfl
def T__law_kind : Nat → Option Fc | 0 => some F_is_orders | 1 => some F_check_orders | 2 => some F_check_letters | 3 => some F_order_between | 4 => some F_order_of | 5 => some F_is_word | 6 => some F_check_word | 7 => some F_kind_of | 8 => some F__law_number | 9 => some F__law_draws | 10 => some F__law_draw | 11 => some F__law_pick | _ => none
def F__law_kind : Fc := fcOf T__law_kind 8 [.fz] b__law_kind
theorem ms__law_kind : F__law_kind.ms = [.fz] := rfl
def T__law_told : Nat → Option Fc | 0 => some F_is_orders | 1 => some F_check_orders | 2 => some F_check_letters | 3 => some F_order_between | 4 => some F_order_of | 5 => some F_is_word | 6 => some F_check_word | 7 => some F_kind_of | 8 => some F__law_number | 9 => some F__law_draws | 10 => some F__law_draw | 11 => some F__law_pick | 12 => some F__law_kind | _ => none
def F__law_told : Fc := fcOf T__law_told 5 [.fz, .fz, .fz, .fz] b__law_told
theorem ms__law_told : F__law_told.ms = [.fz, .fz, .fz, .fz] := rfl
def T_law : Nat → Option Fc | 0 => some F_is_orders | 1 => some F_check_orders | 2 => some F_check_letters | 3 => some F_order_between | 4 => some F_order_of | 5 => some F_is_word | 6 => some F_check_word | 7 => some F_kind_of | 8 => some F__law_number | 9 => some F__law_draws | 10 => some F__law_draw | 11 => some F__law_pick | 12 => some F__law_kind | 13 => some F__law_told | _ => none
def F_law : Fc := fcOf T_law 14 [.sc] b_law
theorem ms_law : F_law.ms = [.sc] := rfl
structure Tb (K : Frag) (mg : Str → Option Value) (a_BadNumber a_FoldError a_NotOrders a_NotWord : Addr) : Prop where
  mgof : ∀ x f, PySem.W.nsIn K mainGlobals x = some (some (.ref f)) → mg x = some (.ref f)
  d_is_orders : DefAt K "is_orders" s_is_orders
  d_check_orders : DefAt K "check_orders" s_check_orders
  d_check_letters : DefAt K "check_letters" s_check_letters
  d_order_between : DefAt K "order_between" s_order_between
  d_order_of : DefAt K "order_of" s_order_of
  d_is_word : DefAt K "is_word" s_is_word
  d_check_word : DefAt K "check_word" s_check_word
  d_kind_of : DefAt K "kind_of" s_kind_of
  d__law_number : DefAt K "_law_number" s__law_number
  d__law_draws : DefAt K "_law_draws" s__law_draws
  d__law_draw : DefAt K "_law_draw" s__law_draw
  d__law_pick : DefAt K "_law_pick" s__law_pick
  d__law_kind : DefAt K "_law_kind" s__law_kind
  d__law_told : DefAt K "_law_told" s__law_told
  d_law : DefAt K "law" s_law
  c_GREATEST : ∃ u, mg "GREATEST" = some u ∧ L2.RelV (.int 12) u
  c_LETTERS : ∃ u, mg "LETTERS" = some u ∧ L2.RelV (.str "012") u
  c_LONGEST : ∃ u, mg "LONGEST" = some u ∧ L2.RelV (.int 60) u
  n_all : mg "all" = none
  n_bool : mg "bool" = none
  n_int : mg "int" = none
  n_isinstance : mg "isinstance" = none
  n_len : mg "len" = none
  n_range : mg "range" = none
  n_repr : mg "repr" = none
  n_sum : mg "sum" = none
  n_tuple : mg "tuple" = none
  e_BadNumber : ExK K mg "BadNumber" a_BadNumber
  e_FoldError : ExK K mg "FoldError" a_FoldError
  e_NotOrders : ExK K mg "NotOrders" a_NotOrders
  e_NotWord : ExK K mg "NotWord" a_NotWord
  y_NotOrders : PySem.W.excIn K a_NotOrders [.type "ValueError", .type "Exception", .type "BaseException", .type "object"] "ValueError.__new__" = true
  y_NotWord : PySem.W.excIn K a_NotWord [.type "ValueError", .type "Exception", .type "BaseException", .type "object"] "ValueError.__new__" = true
  s_BadNumber_BadNumber : PySem.W.subIn K (.ref a_BadNumber) (.ref a_BadNumber) = some true
  s_FoldError_FoldError : PySem.W.subIn K (.ref a_FoldError) (.ref a_FoldError) = some true
  s_NotOrders_BadNumber : PySem.W.subIn K (.ref a_NotOrders) (.ref a_BadNumber) = some false
  s_NotOrders_FoldError : PySem.W.subIn K (.ref a_NotOrders) (.ref a_FoldError) = some true
  s_NotOrders_NotOrders : PySem.W.subIn K (.ref a_NotOrders) (.ref a_NotOrders) = some true
  s_NotOrders_NotWord : PySem.W.subIn K (.ref a_NotOrders) (.ref a_NotWord) = some false
  s_NotWord_BadNumber : PySem.W.subIn K (.ref a_NotWord) (.ref a_BadNumber) = some false
  s_NotWord_FoldError : PySem.W.subIn K (.ref a_NotWord) (.ref a_FoldError) = some true
  s_NotWord_NotOrders : PySem.W.subIn K (.ref a_NotWord) (.ref a_NotOrders) = some false
  s_NotWord_NotWord : PySem.W.subIn K (.ref a_NotWord) (.ref a_NotWord) = some true
section
variable {P : Program} {w : World} {K : Frag} {mg : Str → Option Value} {bs : Heap} {a_BadNumber a_FoldError a_NotOrders a_NotWord : Addr}
theorem gd_is_orders (t : Tb K mg a_BadNumber a_FoldError a_NotOrders a_NotWord)  : Gd P w K mg bs 1 "is_orders" P_is_orders F_is_orders := by
  have S := S_is_orders
  refine Gd.mk (k := 0) (N := N_is_orders) (T := T_is_orders) t.d_is_orders (t.mgof _) S (fun f fd F => F.binds fun _ _ _ _ _ _ us hl => match us, hl with | [_], _ => rfl) rfl (by decide) rfl fun f cdv A outer s H E B hr hgd => ?_
  have hc : Ctx (L2.cxOf (L2.CX P w) P w K mg bs N_is_orders "is_orders" (L2.defScope s_is_orders) f cdv A outer s H E) := ctx_of hr hgd rfl
  have tk : L2.Takes (L2.cxOf (L2.CX P w) P w K mg bs N_is_orders "is_orders" (L2.defScope s_is_orders) f cdv A outer s H E) (fun cls d _ H => E cls d H) := L2.takes_of rfl rfl rfl rfl
  exact (sss_cons (ss_ret (se_and (se_cmp hc (se_fn rfl t.n_len bl_len op_len (sa_cons (se_var (L2.pv 0)) sa_nil)) se_int) (se_one (se_fn rfl t.n_all bl_all (op_all rfl) (sa_cons (se_lc (own := [("order", 1)]) rfl S.nd (si_of (se_var (L2.pv 0))) (L2.blkOk_by (N := N_is_orders) (sc := L2.defScope s_is_orders) (own := [("order", 1)]) (by decide +kernel)) (fun _ _ _ _ _ => (sg_name (L2.pg_name (i := 1) S.nd rfl (by first | exact Or.inl rfl | exact Or.inr rfl)))) (fun _ _ _ _ _ => spts_nil) (fun _ _ _ _ _ => (se_or (se_cmp hc.blk (se_var (L2.pv 1)) se_int) (se_one (se_cmp2 hc.blk se_int (se_var (L2.pv 1)) (se_gci rfl t.c_GREATEST)))))) sa_nil))))) sss_nil)
theorem gd_check_orders (t : Tb K mg a_BadNumber a_FoldError a_NotOrders a_NotWord) (g_is_orders : Gd P w K mg bs 1 "is_orders" P_is_orders F_is_orders) : Gd P w K mg bs 2 "check_orders" P_check_orders F_check_orders := by
  have S := S_check_orders
  refine Gd.mk (k := 1) (N := N_check_orders) (T := T_check_orders) t.d_check_orders (t.mgof _) S (fun f fd F => F.binds fun _ _ _ _ _ _ us hl => match us, hl with | [_], _ => rfl) rfl (by decide) rfl fun f cdv A outer s H E B hr hgd => ?_
  have hc : Ctx (L2.cxOf (L2.CX P w) P w K mg bs N_check_orders "check_orders" (L2.defScope s_check_orders) f cdv A outer s H E) := ctx_of hr hgd rfl
  have tk : L2.Takes (L2.cxOf (L2.CX P w) P w K mg bs N_check_orders "check_orders" (L2.defScope s_check_orders) f cdv A outer s H E) (fun cls d _ H => E cls d H) := L2.takes_of rfl rfl rfl rfl
  exact (sss_cons (ss_ite (st_not (st_of (se_gd g_is_orders rfl rfl hr hc rfl tk (sa_cons (se_var (L2.pv 0)) sa_nil)))) (sss_cons (ss_raise rfl tk PySem.F.excBase_ValueError t.y_NotOrders t.e_NotOrders.at_ t.e_NotOrders.kp (L2.raises_own t.e_NotOrders.xs t.e_NotOrders.tp) rfl) sss_nil) sss_nil) sss_nil)
theorem gd_check_letters (t : Tb K mg a_BadNumber a_FoldError a_NotOrders a_NotWord)  : Gd P w K mg bs 1 "check_letters" P_check_letters F_check_letters := by
  have S := S_check_letters
  refine Gd.mk (k := 0) (N := N_check_letters) (T := T_check_letters) t.d_check_letters (t.mgof _) S (fun f fd F => F.binds fun _ _ _ _ _ _ us hl => match us, hl with | [_, _], _ => rfl) rfl (by decide) rfl fun f cdv A outer s H E B hr hgd => ?_
  have hc : Ctx (L2.cxOf (L2.CX P w) P w K mg bs N_check_letters "check_letters" (L2.defScope s_check_letters) f cdv A outer s H E) := ctx_of hr hgd rfl
  have tk : L2.Takes (L2.cxOf (L2.CX P w) P w K mg bs N_check_letters "check_letters" (L2.defScope s_check_letters) f cdv A outer s H E) (fun cls d _ H => E cls d H) := L2.takes_of rfl rfl rfl rfl
  exact (sss_cons (ss_for (L2.passes_of rfl) rfl (sz_of (se_tup (sa_cons (se_var (L2.pv 0)) (sa_cons (se_var (L2.pv 1)) sa_nil)))) (sg_name (L2.pg_name (i := 2) S.nd rfl (by first | exact Or.inl rfl | exact Or.inr rfl))) (sss_cons (ss_ite (st_w (sw_or (st_cmp hc (se_fn rfl t.n_len bl_len op_len (sa_cons (se_var (L2.pv 2)) sa_nil)) se_int) (sw_or1 (st_cmp hc (se_var (L2.pv 2)) (se_gcs rfl t.c_LETTERS))))) (sss_cons (ss_raise rfl tk PySem.F.excBase_ValueError t.y_NotWord t.e_NotWord.at_ t.e_NotWord.kp (L2.raises_own t.e_NotWord.xs t.e_NotWord.tp) rfl) sss_nil) sss_nil) sss_nil)) (sss_cons (ss_ite (st_cmp hc (se_var (L2.pv 0)) (se_var (L2.pv 1))) (sss_cons (ss_raise rfl tk PySem.F.excBase_ValueError t.y_NotWord t.e_NotWord.at_ t.e_NotWord.kp (L2.raises_own t.e_NotWord.xs t.e_NotWord.tp) rfl) sss_nil) sss_nil) sss_nil))
theorem gd_order_between (t : Tb K mg a_BadNumber a_FoldError a_NotOrders a_NotWord)  : Gd P w K mg bs 1 "order_between" P_order_between F_order_between := by
  have S := S_order_between
  refine Gd.mk (k := 0) (N := N_order_between) (T := T_order_between) t.d_order_between (t.mgof _) S (fun f fd F => F.binds fun _ _ _ _ _ _ us hl => match us, hl with | [_, _, _], _ => rfl) rfl (by decide) rfl fun f cdv A outer s H E B hr hgd => ?_
  have hc : Ctx (L2.cxOf (L2.CX P w) P w K mg bs N_order_between "order_between" (L2.defScope s_order_between) f cdv A outer s H E) := ctx_of hr hgd rfl
  have tk : L2.Takes (L2.cxOf (L2.CX P w) P w K mg bs N_order_between "order_between" (L2.defScope s_order_between) f cdv A outer s H E) (fun cls d _ H => E cls d H) := L2.takes_of rfl rfl rfl rfl
  exact (sss_cons (ss_ite (st_cmp hc se_str (se_bin (se_var (L2.pv 1)) (se_var (L2.pv 2)))) (sss_cons (ss_ret (se_idx (se_var (L2.pv 0)) se_int)) sss_nil) sss_nil) (sss_cons (ss_ite (st_cmp hc se_str (se_bin (se_var (L2.pv 1)) (se_var (L2.pv 2)))) (sss_cons (ss_ret (se_idx (se_var (L2.pv 0)) se_int)) sss_nil) sss_nil) (sss_cons (ss_ret (se_idx (se_var (L2.pv 0)) se_int)) sss_nil)))
theorem gd_order_of (t : Tb K mg a_BadNumber a_FoldError a_NotOrders a_NotWord) (g_check_orders : Gd P w K mg bs 2 "check_orders" P_check_orders F_check_orders) (g_check_letters : Gd P w K mg bs 1 "check_letters" P_check_letters F_check_letters) (g_order_between : Gd P w K mg bs 1 "order_between" P_order_between F_order_between) : Gd P w K mg bs 3 "order_of" P_order_of F_order_of := by
  have g_check_letters := g_check_letters.mono (k := 2) (by decide)
  have g_order_between := g_order_between.mono (k := 2) (by decide)
  have S := S_order_of
  refine Gd.mk (k := 2) (N := N_order_of) (T := T_order_of) t.d_order_of (t.mgof _) S (fun f fd F => F.binds fun _ _ _ _ _ _ us hl => match us, hl with | [_, _, _], _ => rfl) rfl (by decide) rfl fun f cdv A outer s H E B hr hgd => ?_
  have hc : Ctx (L2.cxOf (L2.CX P w) P w K mg bs N_order_of "order_of" (L2.defScope s_order_of) f cdv A outer s H E) := ctx_of hr hgd rfl
  have tk : L2.Takes (L2.cxOf (L2.CX P w) P w K mg bs N_order_of "order_of" (L2.defScope s_order_of) f cdv A outer s H E) (fun cls d _ H => E cls d H) := L2.takes_of rfl rfl rfl rfl
  exact (sss_cons (ss_exp (se_gd g_check_orders rfl rfl hr hc rfl tk (sa_cons (se_var (L2.pv 0)) sa_nil))) (sss_cons (ss_exp (se_gd g_check_letters rfl rfl hr hc rfl tk (sa_cons (se_var (L2.pv 1)) (sa_cons (se_var (L2.pv 2)) sa_nil)))) (sss_cons (ss_ret (se_gd g_order_between rfl rfl hr hc rfl tk (sa_cons (se_var (L2.pv 0)) (sa_cons (se_var (L2.pv 1)) (sa_cons (se_var (L2.pv 2)) sa_nil))))) sss_nil)))
theorem gd_is_word (t : Tb K mg a_BadNumber a_FoldError a_NotOrders a_NotWord)  : Gd P w K mg bs 1 "is_word" P_is_word F_is_word := by
  have S := S_is_word
  refine Gd.mk (k := 0) (N := N_is_word) (T := T_is_word) t.d_is_word (t.mgof _) S (fun f fd F => F.binds fun _ _ _ _ _ _ us hl => match us, hl with | [_, _], _ => rfl) rfl (by decide) rfl fun f cdv A outer s H E B hr hgd => ?_
  have hc : Ctx (L2.cxOf (L2.CX P w) P w K mg bs N_is_word "is_word" (L2.defScope s_is_word) f cdv A outer s H E) := ctx_of hr hgd rfl
  have tk : L2.Takes (L2.cxOf (L2.CX P w) P w K mg bs N_is_word "is_word" (L2.defScope s_is_word) f cdv A outer s H E) (fun cls d _ H => E cls d H) := L2.takes_of rfl rfl rfl rfl
  exact (sss_cons (ss_ret (se_and (se_cmp hc (se_fn rfl t.n_len bl_len op_len (sa_cons (se_var (L2.pv 0)) sa_nil)) (se_var (L2.pv 1))) (se_one (se_fn rfl t.n_all bl_all (op_all rfl) (sa_cons (se_lc (own := [("letter", 2)]) rfl S.nd (si_of (se_var (L2.pv 0))) (L2.blkOk_by (N := N_is_word) (sc := L2.defScope s_is_word) (own := [("letter", 2)]) (by decide +kernel)) (fun _ _ _ _ _ => (sg_name (L2.pg_name (i := 2) S.nd rfl (by first | exact Or.inl rfl | exact Or.inr rfl)))) (fun _ _ _ _ _ => spts_nil) (fun _ _ _ _ _ => (se_cmp hc.blk (se_var (L2.pv 2)) (se_gcs rfl t.c_LETTERS)))) sa_nil))))) sss_nil)
theorem gd_check_word (t : Tb K mg a_BadNumber a_FoldError a_NotOrders a_NotWord) (g_is_word : Gd P w K mg bs 1 "is_word" P_is_word F_is_word) : Gd P w K mg bs 2 "check_word" P_check_word F_check_word := by
  have S := S_check_word
  refine Gd.mk (k := 1) (N := N_check_word) (T := T_check_word) t.d_check_word (t.mgof _) S (fun f fd F => F.binds fun _ _ _ _ _ _ us hl => match us, hl with | [_], _ => rfl) rfl (by decide) rfl fun f cdv A outer s H E B hr hgd => ?_
  have hc : Ctx (L2.cxOf (L2.CX P w) P w K mg bs N_check_word "check_word" (L2.defScope s_check_word) f cdv A outer s H E) := ctx_of hr hgd rfl
  have tk : L2.Takes (L2.cxOf (L2.CX P w) P w K mg bs N_check_word "check_word" (L2.defScope s_check_word) f cdv A outer s H E) (fun cls d _ H => E cls d H) := L2.takes_of rfl rfl rfl rfl
  exact (sss_cons (ss_ite (st_not (st_of (se_gd g_is_word rfl rfl hr hc rfl tk (sa_cons (se_var (L2.pv 0)) (sa_cons (se_gci rfl t.c_LONGEST) sa_nil))))) (sss_cons (ss_raise rfl tk PySem.F.excBase_ValueError t.y_NotWord t.e_NotWord.at_ t.e_NotWord.kp (L2.raises_own t.e_NotWord.xs t.e_NotWord.tp) rfl) sss_nil) sss_nil) sss_nil)
theorem gd_kind_of (t : Tb K mg a_BadNumber a_FoldError a_NotOrders a_NotWord) (g_check_orders : Gd P w K mg bs 2 "check_orders" P_check_orders F_check_orders) : Gd P w K mg bs 3 "kind_of" P_kind_of F_kind_of := by
  have S := S_kind_of
  refine Gd.mk (k := 2) (N := N_kind_of) (T := T_kind_of) t.d_kind_of (t.mgof _) S (fun f fd F => F.binds fun _ _ _ _ _ _ us hl => match us, hl with | [_], _ => rfl) rfl (by decide) rfl fun f cdv A outer s H E B hr hgd => ?_
  have hc : Ctx (L2.cxOf (L2.CX P w) P w K mg bs N_kind_of "kind_of" (L2.defScope s_kind_of) f cdv A outer s H E) := ctx_of hr hgd rfl
  have tk : L2.Takes (L2.cxOf (L2.CX P w) P w K mg bs N_kind_of "kind_of" (L2.defScope s_kind_of) f cdv A outer s H E) (fun cls d _ H => E cls d H) := L2.takes_of rfl rfl rfl rfl
  exact (sss_cons (ss_exp (se_gd g_check_orders rfl rfl hr hc rfl tk (sa_cons (se_var (L2.pv 0)) sa_nil))) (sss_cons (ss_set (i := 1) S.nd rfl (by first | exact Or.inl rfl | exact Or.inr rfl) se_int) (sss_cons (ss_for (L2.passes_of rfl) rfl (sz_of (se_var (L2.pv 0))) (sg_name (L2.pg_name (i := 2) S.nd rfl (by first | exact Or.inl rfl | exact Or.inr rfl))) (sss_cons (ss_ite (st_cmp hc (se_var (L2.pv 2)) se_int) (sss_cons (ss_aug (i := 1) S.nd rfl (by first | exact Or.inl rfl | exact Or.inr rfl) (se_var (L2.pv 2))) sss_nil) sss_nil) sss_nil)) (sss_cons (ss_set (i := 3) S.nd rfl (by first | exact Or.inl rfl | exact Or.inr rfl) (se_fn rfl t.n_sum bl_sum (op_sum rfl) (sa_cons (se_lc (own := [("order", 2)]) rfl S.nd (si_of (se_var (L2.pv 0))) (L2.blkOk_by (N := N_kind_of) (sc := L2.defScope s_kind_of) (own := [("order", 2)]) (by decide +kernel)) (fun _ _ _ _ _ => (sg_name (L2.pg_name (i := 2) S.nd rfl (by first | exact Or.inl rfl | exact Or.inr rfl)))) (fun _ _ _ _ _ => (spts_one (st_cmp hc.blk (se_var (L2.pv 2)) se_int))) (fun _ _ _ _ _ => (se_bin (se_var (L2.pv 1)) (se_var (L2.pv 2))))) sa_nil))) (sss_cons (ss_ite (st_cmp hc (se_var (L2.pv 3)) (se_var (L2.pv 1))) (sss_cons (ss_ret se_str) sss_nil) sss_nil) (sss_cons (ss_ite (st_cmp hc (se_var (L2.pv 3)) (se_var (L2.pv 1))) (sss_cons (ss_ret se_str) sss_nil) sss_nil) (sss_cons (ss_ret se_str) sss_nil)))))))
theorem gd__law_number (t : Tb K mg a_BadNumber a_FoldError a_NotOrders a_NotWord)  : Gd P w K mg bs 1 "_law_number" P__law_number F__law_number := by
  have S := S__law_number
  refine Gd.mk (k := 0) (N := N__law_number) (T := T__law_number) t.d__law_number (t.mgof _) S (fun f fd F => F.binds fun _ _ _ _ _ _ us hl => match us, hl with | [_], _ => rfl) rfl (by decide) rfl fun f cdv A outer s H E B hr hgd => ?_
  have hc : Ctx (L2.cxOf (L2.CX P w) P w K mg bs N__law_number "_law_number" (L2.defScope s__law_number) f cdv A outer s H E) := ctx_of hr hgd rfl
  have tk : L2.Takes (L2.cxOf (L2.CX P w) P w K mg bs N__law_number "_law_number" (L2.defScope s__law_number) f cdv A outer s H E) (fun cls d _ H => E cls d H) := L2.takes_of rfl rfl rfl rfl
  exact (sss_cons (ss_ite (st_cmp hc (se_var (L2.pv 0)) se_int) (sss_cons (ss_ret (se_bin se_int (se_var (L2.pv 0)))) sss_nil) sss_nil) (sss_cons (ss_ret (se_var (L2.pv 0))) sss_nil))
theorem gd__law_draws (t : Tb K mg a_BadNumber a_FoldError a_NotOrders a_NotWord) (g__law_number : Gd P w K mg bs 1 "_law_number" P__law_number F__law_number) : Gd P w K mg bs 2 "_law_draws" P__law_draws F__law_draws := by
  have S := S__law_draws
  refine Gd.mk (k := 1) (N := N__law_draws) (T := T__law_draws) t.d__law_draws (t.mgof _) S (fun f fd F => F.binds fun _ _ _ _ _ _ us hl => match us, hl with | [_], _ => rfl) rfl (by decide) rfl fun f cdv A outer s H E B hr hgd => ?_
  have hc : Ctx (L2.cxOf (L2.CX P w) P w K mg bs N__law_draws "_law_draws" (L2.defScope s__law_draws) f cdv A outer s H E) := ctx_of hr hgd rfl
  have tk : L2.Takes (L2.cxOf (L2.CX P w) P w K mg bs N__law_draws "_law_draws" (L2.defScope s__law_draws) f cdv A outer s H E) (fun cls d _ H => E cls d H) := L2.takes_of rfl rfl rfl rfl
  exact (sss_cons (ss_set (i := 1) S.nd rfl (by first | exact Or.inl rfl | exact Or.inr rfl) (se_lst sa_nil)) (sss_cons (ss_set (i := 2) S.nd rfl (by first | exact Or.inl rfl | exact Or.inr rfl) se_int) (sss_cons (ss_for (L2.passes_of rfl) rfl (sz_of (se_var (L2.pv 0))) (sg_name (L2.pg_name (i := 3) S.nd rfl (by first | exact Or.inl rfl | exact Or.inr rfl))) (sss_cons (ss_set (i := 4) S.nd rfl (by first | exact Or.inl rfl | exact Or.inr rfl) (se_gd g__law_number rfl rfl hr hc rfl tk (sa_cons (se_var (L2.pv 3)) sa_nil))) (sss_cons (ss_set (i := 2) S.nd rfl (by first | exact Or.inl rfl | exact Or.inr rfl) (se_bin (se_ty rfl t.n_int bl_int op_int (sa_cons (se_bin (se_bin (se_var (L2.pv 2)) se_int) (se_var (L2.pv 4))) sa_nil)) se_int)) (sss_cons (ss_ite (st_cmp hc (se_var (L2.pv 4)) se_int) (sss_cons (ss_for (L2.passes_of rfl) rfl (sz_si (si_rng1 rfl t.n_range se_int) fun _ _ _ _ h => rng1_ro h) (sg_name (L2.pg_name (i := 5) S.nd rfl (by first | exact Or.inl rfl | exact Or.inr rfl))) (sss_cons (ss_ite (st_cmp hc (se_var (L2.pv 4)) se_int) (sss_cons ss_brk sss_nil) sss_nil) (sss_cons (ss_exp (se_append (se_var (L2.pv 1)) (sa_cons (se_bin (se_ty rfl t.n_int bl_int op_int (sa_cons (se_var (L2.pv 4)) sa_nil)) se_int) sa_nil))) (sss_cons (ss_set (i := 4) S.nd rfl (by first | exact Or.inl rfl | exact Or.inr rfl) (se_bin (se_var (L2.pv 4)) se_int)) sss_nil)))) sss_nil) (sss_cons (ss_set (i := 6) S.nd rfl (by first | exact Or.inl rfl | exact Or.inr rfl) (se_bin (se_ty rfl t.n_int bl_int op_int (sa_cons (se_bin (se_bin (se_var (L2.pv 4)) se_int) se_int) sa_nil)) se_int)) (sss_cons (ss_set (i := 7) S.nd rfl (by first | exact Or.inl rfl | exact Or.inr rfl) (se_bin (se_ty rfl t.n_int bl_int op_int (sa_cons (se_bin (se_bin (se_var (L2.pv 6)) se_int) (se_var (L2.pv 4))) sa_nil)) se_int)) (sss_cons (ss_exp (se_extend (se_var (L2.pv 1)) (sa_cons (se_lst (sa_cons (se_bin (se_ty rfl t.n_int bl_int op_int (sa_cons (se_var (L2.pv 4)) sa_nil)) se_int) (sa_cons (se_bin (se_ty rfl t.n_int bl_int op_int (sa_cons (se_var (L2.pv 6)) sa_nil)) se_int) (sa_cons (se_bin (se_ty rfl t.n_int bl_int op_int (sa_cons (se_var (L2.pv 7)) sa_nil)) se_int) sa_nil)))) sa_nil))) sss_nil)))) sss_nil)))) (sss_cons (ss_for (L2.passes_of rfl) rfl (sz_si (si_rng1 rfl t.n_range se_int) fun _ _ _ _ h => rng1_ro h) (sg_name (L2.pg_name (i := 5) S.nd rfl (by first | exact Or.inl rfl | exact Or.inr rfl))) (sss_cons (ss_set (i := 2) S.nd rfl (by first | exact Or.inl rfl | exact Or.inr rfl) (se_bin (se_ty rfl t.n_int bl_int op_int (sa_cons (se_bin (se_bin (se_var (L2.pv 2)) se_int) se_int) sa_nil)) se_int)) (sss_cons (ss_exp (se_append (se_var (L2.pv 1)) (sa_cons (se_bin (se_ty rfl t.n_int bl_int op_int (sa_cons (se_bin (se_var (L2.pv 2)) se_int) sa_nil)) se_int) sa_nil))) sss_nil))) (sss_cons (ss_exp (se_reverse (se_var (L2.pv 1)))) (sss_cons (ss_ret (se_var (L2.pv 1))) sss_nil))))))
theorem gd__law_draw (t : Tb K mg a_BadNumber a_FoldError a_NotOrders a_NotWord)  : Gd P w K mg bs 1 "_law_draw" P__law_draw F__law_draw := by
  have S := S__law_draw
  refine Gd.mk (k := 0) (N := N__law_draw) (T := T__law_draw) t.d__law_draw (t.mgof _) S (fun f fd F => F.binds fun _ _ _ _ _ _ us hl => match us, hl with | [_], _ => rfl) rfl (by decide) rfl fun f cdv A outer s H E B hr hgd => ?_
  have hc : Ctx (L2.cxOf (L2.CX P w) P w K mg bs N__law_draw "_law_draw" (L2.defScope s__law_draw) f cdv A outer s H E) := ctx_of hr hgd rfl
  have tk : L2.Takes (L2.cxOf (L2.CX P w) P w K mg bs N__law_draw "_law_draw" (L2.defScope s__law_draw) f cdv A outer s H E) (fun cls d _ H => E cls d H) := L2.takes_of rfl rfl rfl rfl
  exact (sss_cons (ss_ite (st_of (se_var (L2.pv 0))) (sss_cons (ss_ret (se_pop (se_var (L2.pv 0)))) sss_nil) sss_nil) (sss_cons (ss_ret se_int) sss_nil))
theorem gd__law_pick (t : Tb K mg a_BadNumber a_FoldError a_NotOrders a_NotWord) (g__law_draw : Gd P w K mg bs 1 "_law_draw" P__law_draw F__law_draw) : Gd P w K mg bs 2 "_law_pick" P__law_pick F__law_pick := by
  have S := S__law_pick
  refine Gd.mk (k := 1) (N := N__law_pick) (T := T__law_pick) t.d__law_pick (t.mgof _) S (fun f fd F => F.binds fun _ _ _ _ _ _ us hl => match us, hl with | [_, _], _ => rfl) rfl (by decide) rfl fun f cdv A outer s H E B hr hgd => ?_
  have hc : Ctx (L2.cxOf (L2.CX P w) P w K mg bs N__law_pick "_law_pick" (L2.defScope s__law_pick) f cdv A outer s H E) := ctx_of hr hgd rfl
  have tk : L2.Takes (L2.cxOf (L2.CX P w) P w K mg bs N__law_pick "_law_pick" (L2.defScope s__law_pick) f cdv A outer s H E) (fun cls d _ H => E cls d H) := L2.takes_of rfl rfl rfl rfl
  exact (sss_cons (ss_ret (se_bin (se_ty rfl t.n_int bl_int op_int (sa_cons (se_gd g__law_draw rfl rfl hr hc rfl tk (sa_cons (se_var (L2.pv 0)) sa_nil)) sa_nil)) (se_var (L2.pv 1)))) sss_nil)
theorem gd__law_kind (t : Tb K mg a_BadNumber a_FoldError a_NotOrders a_NotWord)  : Gd P w K mg bs 1 "_law_kind" P__law_kind F__law_kind := by
  have S := S__law_kind
  refine Gd.mk (k := 0) (N := N__law_kind) (T := T__law_kind) t.d__law_kind (t.mgof _) S (fun f fd F => F.binds fun _ _ _ _ _ _ us hl => match us, hl with | [_], _ => rfl) rfl (by decide) rfl fun f cdv A outer s H E B hr hgd => ?_
  have hc : Ctx (L2.cxOf (L2.CX P w) P w K mg bs N__law_kind "_law_kind" (L2.defScope s__law_kind) f cdv A outer s H E) := ctx_of hr hgd rfl
  have tk : L2.Takes (L2.cxOf (L2.CX P w) P w K mg bs N__law_kind "_law_kind" (L2.defScope s__law_kind) f cdv A outer s H E) (fun cls d _ H => E cls d H) := L2.takes_of rfl rfl rfl rfl
  exact (sss_cons (ss_asgT (by intro i z; cases z) (se_lc (own := [("order", 1)]) rfl S.nd (si_of (se_var (L2.pv 0))) (L2.blkOk_by (N := N__law_kind) (sc := L2.defScope s__law_kind) (own := [("order", 1)]) (by decide +kernel)) (fun _ _ _ _ _ => (sg_name (L2.pg_name (i := 1) S.nd rfl (by first | exact Or.inl rfl | exact Or.inr rfl)))) (fun _ _ _ _ _ => spts_nil) (fun _ _ _ _ _ => (se_ite (st_cmp hc.blk (se_var (L2.pv 1)) se_int) (se_var (L2.pv 1)) se_int))) (sg_unl rfl (sgs_cons (L2.pg_name (i := 2) S.nd rfl (by first | exact Or.inl rfl | exact Or.inr rfl)) (sgs_cons (L2.pg_name (i := 3) S.nd rfl (by first | exact Or.inl rfl | exact Or.inr rfl)) (sgs_cons (L2.pg_name (i := 4) S.nd rfl (by first | exact Or.inl rfl | exact Or.inr rfl)) sgs_nil))))) (sss_cons (ss_set (i := 5) S.nd rfl (by first | exact Or.inl rfl | exact Or.inr rfl) se_int) (sss_cons (ss_set (i := 6) S.nd rfl (by first | exact Or.inl rfl | exact Or.inr rfl) (se_bin (se_bin (se_var (L2.pv 2)) (se_var (L2.pv 3))) (se_var (L2.pv 4)))) (sss_cons (ss_for (L2.passes_of rfl) rfl (sz_si (si_rng1 rfl t.n_range se_int) fun _ _ _ _ h => rng1_ro h) (sg_name (L2.pg_name (i := 7) S.nd rfl (by first | exact Or.inl rfl | exact Or.inr rfl))) (sss_cons (ss_ite (st_cmp hc (se_idx (se_var (L2.pv 0)) (se_var (L2.pv 7))) se_int) (sss_cons (ss_set (i := 5) S.nd rfl (by first | exact Or.inl rfl | exact Or.inr rfl) (se_bin (se_var (L2.pv 5)) (se_bin (se_var (L2.pv 6)) (se_idx (se_lst (sa_cons (se_var (L2.pv 2)) (sa_cons (se_var (L2.pv 3)) (sa_cons (se_var (L2.pv 4)) sa_nil)))) (se_var (L2.pv 7)))))) sss_nil) sss_nil) sss_nil)) (sss_cons (ss_ite (st_cmp hc (se_var (L2.pv 5)) (se_var (L2.pv 6))) (sss_cons (ss_ret se_str) sss_nil) sss_nil) (sss_cons (ss_ite (st_cmp hc (se_var (L2.pv 5)) (se_var (L2.pv 6))) (sss_cons (ss_ret se_str) sss_nil) sss_nil) (sss_cons (ss_ret se_str) sss_nil)))))))
theorem gd__law_told (t : Tb K mg a_BadNumber a_FoldError a_NotOrders a_NotWord) (g_check_orders : Gd P w K mg bs 2 "check_orders" P_check_orders F_check_orders) (g_order_of : Gd P w K mg bs 3 "order_of" P_order_of F_order_of) (g_check_word : Gd P w K mg bs 2 "check_word" P_check_word F_check_word) (g_kind_of : Gd P w K mg bs 3 "kind_of" P_kind_of F_kind_of) : Gd P w K mg bs 4 "_law_told" P__law_told F__law_told := by
  have g_check_orders := g_check_orders.mono (k := 3) (by decide)
  have g_check_word := g_check_word.mono (k := 3) (by decide)
  have S := S__law_told
  refine Gd.mk (k := 3) (N := N__law_told) (T := T__law_told) t.d__law_told (t.mgof _) S (fun f fd F => F.binds fun _ _ _ _ _ _ us hl => match us, hl with | [_, _, _, _], _ => rfl) rfl (by decide) rfl fun f cdv A outer s H E B hr hgd => ?_
  have hc : Ctx (L2.cxOf (L2.CX P w) P w K mg bs N__law_told "_law_told" (L2.defScope s__law_told) f cdv A outer s H E) := ctx_of hr hgd rfl
  have tk : L2.Takes (L2.cxOf (L2.CX P w) P w K mg bs N__law_told "_law_told" (L2.defScope s__law_told) f cdv A outer s H E) (fun cls d _ H => E cls d H) := L2.takes_of rfl rfl rfl rfl
  exact (sss_cons (ss_try (i := 4) (c := .ref a_FoldError) rfl rfl S.nd rfl rfl ⟨rfl, by decide, .inl t.e_FoldError.at_⟩ tk (lk_cons (lk_one t.e_NotOrders.at_ (PySem.W.exm_ref t.e_FoldError.xs t.e_FoldError.hd t.e_FoldError.tp t.s_NotOrders_FoldError)) (lk_cons (lk_one t.e_NotWord.at_ (PySem.W.exm_ref t.e_FoldError.xs t.e_FoldError.hd t.e_FoldError.tp t.s_NotWord_FoldError)) lk_nil)) (fun W pn xe tk hp => (sss_cons (ss_ite (st_cmp hc.tr (se_var (L2.pv 0)) se_int) (sss_cons (ss_ret (se_gd g_check_orders rfl rfl hr hc.tr rfl tk (sa_cons (se_var (L2.pv 1)) sa_nil))) sss_nil) sss_nil) (sss_cons (ss_ite (st_cmp hc.tr (se_var (L2.pv 0)) se_int) (sss_cons (ss_ret (se_gd g_order_of rfl rfl hr hc.tr rfl tk (sa_cons (se_var (L2.pv 1)) (sa_cons (se_var (L2.pv 2)) (sa_cons (se_var (L2.pv 3)) sa_nil))))) sss_nil) sss_nil) (sss_cons (ss_ite (st_cmp hc.tr (se_var (L2.pv 0)) se_int) (sss_cons (ss_ret (se_gd g_kind_of rfl rfl hr hc.tr rfl tk (sa_cons (se_var (L2.pv 1)) sa_nil))) sss_nil) sss_nil) (sss_cons (ss_ret (se_gd g_check_word rfl rfl hr hc.tr rfl tk (sa_cons (se_var (L2.pv 2)) sa_nil))) sss_nil))))) (fun a oe cls dd pn y B hz hf hx _ => (sss_cons (ss_ite (st_w (sw_and (st_of (se_isx hz hf hx (lk_cons (lk_one t.e_NotOrders.at_ ⟨t.e_NotOrders.c, kit_of t.e_NotOrders t.s_NotOrders_NotOrders t.s_NotOrders_NotOrders⟩) (lk_cons (lk_one t.e_NotWord.at_ ⟨t.e_NotWord.c, kit_of t.e_NotOrders t.s_NotWord_NotOrders t.s_NotOrders_NotOrders⟩) lk_nil)) hx.ref rfl t.n_isinstance (L2.pv 4) (L2.pe_glob rfl t.e_NotOrders.at_ rfl))) (sw_and1 (st_not (st_of (se_isx hz hf hx (lk_cons (lk_one t.e_NotOrders.at_ ⟨t.e_NotOrders.c, kit_of t.e_BadNumber t.s_NotOrders_BadNumber t.s_BadNumber_BadNumber⟩) (lk_cons (lk_one t.e_NotWord.at_ ⟨t.e_NotWord.c, kit_of t.e_BadNumber t.s_NotWord_BadNumber t.s_BadNumber_BadNumber⟩) lk_nil)) hx.ref rfl t.n_isinstance (L2.pv 4) (L2.pe_glob rfl t.e_BadNumber.at_ rfl))))))) (sss_cons (ss_ret se_str) sss_nil) sss_nil) (sss_cons (ss_ite (st_w (sw_and (st_of (se_isx hz hf hx (lk_cons (lk_one t.e_NotOrders.at_ ⟨t.e_NotOrders.c, kit_of t.e_NotWord t.s_NotOrders_NotWord t.s_NotWord_NotWord⟩) (lk_cons (lk_one t.e_NotWord.at_ ⟨t.e_NotWord.c, kit_of t.e_NotWord t.s_NotWord_NotWord t.s_NotWord_NotWord⟩) lk_nil)) hx.ref rfl t.n_isinstance (L2.pv 4) (L2.pe_glob rfl t.e_NotWord.at_ rfl))) (sw_and1 (st_not (st_of (se_isx hz hf hx (lk_cons (lk_one t.e_NotOrders.at_ ⟨t.e_NotOrders.c, kit_of t.e_NotOrders t.s_NotOrders_NotOrders t.s_NotOrders_NotOrders⟩) (lk_cons (lk_one t.e_NotWord.at_ ⟨t.e_NotWord.c, kit_of t.e_NotOrders t.s_NotWord_NotOrders t.s_NotOrders_NotOrders⟩) lk_nil)) hx.ref rfl t.n_isinstance (L2.pv 4) (L2.pe_glob rfl t.e_NotOrders.at_ rfl))))))) (sss_cons (ss_ret se_str) sss_nil) sss_nil) (sss_cons (ss_ret se_str) sss_nil))))) sss_nil)
theorem gd_law (t : Tb K mg a_BadNumber a_FoldError a_NotOrders a_NotWord) (g_is_orders : Gd P w K mg bs 1 "is_orders" P_is_orders F_is_orders) (g__law_draws : Gd P w K mg bs 2 "_law_draws" P__law_draws F__law_draws) (g__law_pick : Gd P w K mg bs 2 "_law_pick" P__law_pick F__law_pick) (g__law_kind : Gd P w K mg bs 1 "_law_kind" P__law_kind F__law_kind) (g__law_told : Gd P w K mg bs 4 "_law_told" P__law_told F__law_told) : Gd P w K mg bs 5 "law" P_law F_law := by
  have g_is_orders := g_is_orders.mono (k := 4) (by decide)
  have g__law_draws := g__law_draws.mono (k := 4) (by decide)
  have g__law_pick := g__law_pick.mono (k := 4) (by decide)
  have g__law_kind := g__law_kind.mono (k := 4) (by decide)
  have S := S_law
  refine Gd.mk (k := 4) (N := N_law) (T := T_law) t.d_law (t.mgof _) S (fun f fd F => F.binds fun _ _ _ _ _ _ us hl => match us, hl with | [_], _ => rfl) rfl (by decide) rfl fun f cdv A outer s H E B hr hgd => ?_
  have hc : Ctx (L2.cxOf (L2.CX P w) P w K mg bs N_law "law" (L2.defScope s_law) f cdv A outer s H E) := ctx_of hr hgd rfl
  have tk : L2.Takes (L2.cxOf (L2.CX P w) P w K mg bs N_law "law" (L2.defScope s_law) f cdv A outer s H E) (fun cls d _ H => E cls d H) := L2.takes_of rfl rfl rfl rfl
  exact (sss_cons (ss_set (i := 1) S.nd rfl (by first | exact Or.inl rfl | exact Or.inr rfl) (se_gd g__law_draws rfl rfl hr hc rfl tk (sa_cons (se_var (L2.pv 0)) sa_nil))) (sss_cons (ss_set (i := 2) S.nd rfl (by first | exact Or.inl rfl | exact Or.inr rfl) (se_idx (se_lst (sa_cons se_int (sa_cons se_int (sa_cons se_int (sa_cons se_int (sa_cons se_int (sa_cons se_int (sa_cons se_int (sa_cons se_int sa_nil))))))))) (se_gd g__law_pick rfl rfl hr hc rfl tk (sa_cons (se_var (L2.pv 1)) (sa_cons se_int sa_nil))))) (sss_cons (ss_set (i := 4) S.nd rfl (by first | exact Or.inl rfl | exact Or.inr rfl) (se_ty rfl t.n_tuple bl_tuple op_tuple (sa_cons (se_lc (own := [("k", 3)]) rfl S.nd (si_rng1 rfl t.n_range (se_var (L2.pv 2))) (L2.blkOk_by (N := N_law) (sc := L2.defScope s_law) (own := [("k", 3)]) (by decide +kernel)) (fun _ _ _ _ _ => (sg_name (L2.pg_name (i := 3) S.nd rfl (by first | exact Or.inl rfl | exact Or.inr rfl)))) (fun _ _ _ _ _ => spts_nil) (fun _ _ _ _ _ => (se_bin (se_gd g__law_pick rfl rfl hr hc.blk rfl takesF (sa_cons (se_var (L2.pv 1)) (sa_cons se_int sa_nil))) se_int))) sa_nil))) (sss_cons (ss_ite (st_cmp hc (se_gd g__law_pick rfl rfl hr hc rfl tk (sa_cons (se_var (L2.pv 1)) (sa_cons se_int sa_nil))) se_int) (sss_cons (ss_set (i := 4) S.nd rfl (by first | exact Or.inl rfl | exact Or.inr rfl) (se_ty rfl t.n_tuple bl_tuple op_tuple (sa_cons (se_lc (own := [("k", 3)]) rfl S.nd (si_rng1 rfl t.n_range (se_var (L2.pv 2))) (L2.blkOk_by (N := N_law) (sc := L2.defScope s_law) (own := [("k", 3)]) (by decide +kernel)) (fun _ _ _ _ _ => (sg_name (L2.pg_name (i := 3) S.nd rfl (by first | exact Or.inl rfl | exact Or.inr rfl)))) (fun _ _ _ _ _ => spts_nil) (fun _ _ _ _ _ => (se_idx (se_lst (sa_cons se_int (sa_cons se_int (sa_cons se_int (sa_cons se_int (sa_cons se_int (sa_cons se_int sa_nil))))))) (se_gd g__law_pick rfl rfl hr hc.blk rfl takesF (sa_cons (se_var (L2.pv 1)) (sa_cons se_int sa_nil)))))) sa_nil))) sss_nil) sss_nil) (sss_cons (ss_set (i := 5) S.nd rfl (by first | exact Or.inl rfl | exact Or.inr rfl) (se_cmp hc (se_var (L2.pv 2)) se_int)) (sss_cons (ss_for (L2.passes_of rfl) rfl (sz_of (se_var (L2.pv 4))) (sg_name (L2.pg_name (i := 6) S.nd rfl (by first | exact Or.inl rfl | exact Or.inr rfl))) (sss_cons (ss_set (i := 5) S.nd rfl (by first | exact Or.inl rfl | exact Or.inr rfl) (se_and (se_var (L2.pv 5)) (se_one (se_or (se_cmp hc (se_var (L2.pv 6)) se_int) (se_one (se_cmp2 hc se_int (se_var (L2.pv 6)) se_int)))))) sss_nil)) (sss_cons (ss_ite (st_w (sw_or (st_not (st_of (se_isT rfl rfl t.n_isinstance rfl t.n_bool bl_bool (se_gd g_is_orders rfl rfl hr hc rfl tk (sa_cons (se_var (L2.pv 4)) sa_nil))))) (sw_or1 (st_cmp hc (se_gd g_is_orders rfl rfl hr hc rfl tk (sa_cons (se_var (L2.pv 4)) sa_nil)) (se_var (L2.pv 5)))))) (sss_cons (ss_ret se_bl) sss_nil) sss_nil) (sss_cons (ss_set (i := 7) S.nd rfl (by first | exact Or.inl rfl | exact Or.inr rfl) (se_idx (se_lst (sa_cons se_str (sa_cons se_str (sa_cons se_str (sa_cons se_str (sa_cons se_str (sa_cons se_str (sa_cons se_str (sa_cons se_str (sa_cons se_str sa_nil)))))))))) (se_gd g__law_pick rfl rfl hr hc rfl tk (sa_cons (se_var (L2.pv 1)) (sa_cons se_int sa_nil))))) (sss_cons (ss_set (i := 8) S.nd rfl (by first | exact Or.inl rfl | exact Or.inr rfl) (se_idx (se_lst (sa_cons se_str (sa_cons se_str (sa_cons se_str (sa_cons se_str (sa_cons se_str (sa_cons se_str (sa_cons se_str (sa_cons se_str (sa_cons se_str sa_nil)))))))))) (se_gd g__law_pick rfl rfl hr hc rfl tk (sa_cons (se_var (L2.pv 1)) (sa_cons se_int sa_nil))))) (sss_cons (ss_set (i := 9) S.nd rfl (by first | exact Or.inl rfl | exact Or.inr rfl) (se_lst (sa_cons se_str (sa_cons se_str (sa_cons se_str sa_nil))))) (sss_cons (ss_ite (st_of (se_var (L2.pv 5))) (sss_cons (ss_set (i := 9) S.nd rfl (by first | exact Or.inl rfl | exact Or.inr rfl) (se_lst (sa_cons se_non (sa_cons se_str (sa_cons (se_gd g__law_kind rfl rfl hr hc rfl tk (sa_cons (se_var (L2.pv 4)) sa_nil)) sa_nil))))) (sss_cons (ss_ite (st_w (sw_and (st_cmp hc (se_bin (se_var (L2.pv 7)) (se_var (L2.pv 8))) (se_lst (sa_cons se_str (sa_cons se_str (sa_cons se_str (sa_cons se_str (sa_cons se_str (sa_cons se_str sa_nil)))))))) (sw_and1 (st_cmp hc (se_fn rfl t.n_len bl_len op_len (sa_cons (se_var (L2.pv 7)) sa_nil)) se_int)))) (sss_cons (ss_sub (i := 9) hc (se_idx (se_var (L2.pv 4)) (se_idxd hc (se_dctc (kvs := [((.str "01"), (.int 0)), ((.str "10"), (.int 0)), ((.str "12"), (.int 1)), ((.str "21"), (.int 1)), ((.str "02"), (.int 2)), ((.str "20"), (.int 2))]) (L2.pps_cons L2.pe_str L2.pe_int (L2.pps_cons L2.pe_str L2.pe_int (L2.pps_cons L2.pe_str L2.pe_int (L2.pps_cons L2.pe_str L2.pe_int (L2.pps_cons L2.pe_str L2.pe_int (L2.pps_cons L2.pe_str L2.pe_int L2.pps_nil)))))) rfl rfl (by intro z; cases z) (by decide)) (se_bin (se_var (L2.pv 7)) (se_var (L2.pv 8))))) (L2.pv 9) se_int) sss_nil) sss_nil) sss_nil)) sss_nil) (sss_cons (ss_ite (st_cmp hc (se_fn rfl t.n_repr bl_repr (op_repr hc) (sa_cons (se_lc (own := [("way", 10)]) rfl S.nd (si_rng1 rfl t.n_range se_int) (L2.blkOk_by (N := N_law) (sc := L2.defScope s_law) (own := [("way", 10)]) (by decide +kernel)) (fun _ _ _ _ _ => (sg_name (L2.pg_name (i := 10) S.nd rfl (by first | exact Or.inl rfl | exact Or.inr rfl)))) (fun _ _ _ _ _ => spts_nil) (fun _ _ _ _ _ => (se_gd g__law_told rfl rfl hr hc.blk rfl takesF (sa_cons (se_var (L2.pv 10)) (sa_cons (se_var (L2.pv 4)) (sa_cons (se_var (L2.pv 7)) (sa_cons (se_var (L2.pv 8)) sa_nil))))))) sa_nil)) (se_fn rfl t.n_repr bl_repr (op_repr hc) (sa_cons (se_var (L2.pv 9)) sa_nil))) (sss_cons (ss_ret se_bl) sss_nil) sss_nil) (sss_cons (ss_set (i := 11) S.nd rfl (by first | exact Or.inl rfl | exact Or.inr rfl) (se_join se_str (sa_cons (se_lc (own := [("k", 3)]) rfl S.nd (si_rng1 rfl t.n_range (se_gd g__law_pick rfl rfl hr hc rfl tk (sa_cons (se_var (L2.pv 1)) (sa_cons se_int sa_nil)))) (L2.blkOk_by (N := N_law) (sc := L2.defScope s_law) (own := [("k", 3)]) (by decide +kernel)) (fun _ _ _ _ _ => (sg_name (L2.pg_name (i := 3) S.nd rfl (by first | exact Or.inl rfl | exact Or.inr rfl)))) (fun _ _ _ _ _ => spts_nil) (fun _ _ _ _ _ => (se_idx se_str (se_gd g__law_pick rfl rfl hr hc.blk rfl takesF (sa_cons (se_var (L2.pv 1)) (sa_cons se_int sa_nil)))))) sa_nil))) (sss_cons (ss_ite (st_cmp hc (se_gd g__law_pick rfl rfl hr hc rfl tk (sa_cons (se_var (L2.pv 1)) (sa_cons se_int sa_nil))) se_int) (sss_cons (ss_set (i := 12) S.nd rfl (by first | exact Or.inl rfl | exact Or.inr rfl) (se_gd g__law_pick rfl rfl hr hc rfl tk (sa_cons (se_var (L2.pv 1)) (sa_cons (se_bin (se_fn rfl t.n_len bl_len op_len (sa_cons (se_var (L2.pv 11)) sa_nil)) se_int) sa_nil)))) (sss_cons (ss_set (i := 11) S.nd rfl (by first | exact Or.inl rfl | exact Or.inr rfl) (se_bin (se_bin (se_slc (se_var (L2.pv 11)) so_none (so_some (se_var (L2.pv 12)))) (se_idx (se_lst (sa_cons se_str (sa_cons se_str (sa_cons se_str (sa_cons se_str sa_nil))))) (se_gd g__law_pick rfl rfl hr hc rfl tk (sa_cons (se_var (L2.pv 1)) (sa_cons se_int sa_nil))))) (se_slc (se_var (L2.pv 11)) (so_some (se_var (L2.pv 12))) so_none))) sss_nil)) sss_nil) (sss_cons (ss_set (i := 9) S.nd rfl (by first | exact Or.inl rfl | exact Or.inr rfl) se_non) (sss_cons (ss_ite (st_w (sw_or (st_cmp hc (se_fn rfl t.n_len bl_len op_len (sa_cons (se_var (L2.pv 11)) sa_nil)) se_int) (sw_or1 (st_not (st_of (se_fn rfl t.n_all bl_all (op_all rfl) (sa_cons (se_lc (own := [("letter", 13)]) rfl S.nd (si_of (se_var (L2.pv 11))) (L2.blkOk_by (N := N_law) (sc := L2.defScope s_law) (own := [("letter", 13)]) (by decide +kernel)) (fun _ _ _ _ _ => (sg_name (L2.pg_name (i := 13) S.nd rfl (by first | exact Or.inl rfl | exact Or.inr rfl)))) (fun _ _ _ _ _ => spts_nil) (fun _ _ _ _ _ => (se_cmp hc.blk (se_var (L2.pv 13)) se_str))) sa_nil))))))) (sss_cons (ss_set (i := 9) S.nd rfl (by first | exact Or.inl rfl | exact Or.inr rfl) se_str) sss_nil) sss_nil) (sss_cons (ss_ret (se_cmp hc (se_fn rfl t.n_repr bl_repr (op_repr hc) (sa_cons (se_gd g__law_told rfl rfl hr hc rfl tk (sa_cons se_int (sa_cons (se_var (L2.pv 4)) (sa_cons (se_var (L2.pv 11)) (sa_cons se_str sa_nil))))) sa_nil)) (se_fn rfl t.n_repr bl_repr (op_repr hc) (sa_cons (se_var (L2.pv 9)) sa_nil)))) sss_nil)))))))))))))))))
theorem gd_all (t : Tb K mg a_BadNumber a_FoldError a_NotOrders a_NotWord) : Gd P w K mg bs 5 "law" ["script"] F_law := by
  have h_is_orders := gd_is_orders (P := P) (w := w) (bs := bs) t 
  have h_check_orders := gd_check_orders (P := P) (w := w) (bs := bs) t h_is_orders
  have h_check_letters := gd_check_letters (P := P) (w := w) (bs := bs) t 
  have h_order_between := gd_order_between (P := P) (w := w) (bs := bs) t 
  have h_order_of := gd_order_of (P := P) (w := w) (bs := bs) t h_check_orders h_check_letters h_order_between
  have h_is_word := gd_is_word (P := P) (w := w) (bs := bs) t 
  have h_check_word := gd_check_word (P := P) (w := w) (bs := bs) t h_is_word
  have h_kind_of := gd_kind_of (P := P) (w := w) (bs := bs) t h_check_orders
  have h__law_number := gd__law_number (P := P) (w := w) (bs := bs) t 
  have h__law_draws := gd__law_draws (P := P) (w := w) (bs := bs) t h__law_number
  have h__law_draw := gd__law_draw (P := P) (w := w) (bs := bs) t 
  have h__law_pick := gd__law_pick (P := P) (w := w) (bs := bs) t h__law_draw
  have h__law_kind := gd__law_kind (P := P) (w := w) (bs := bs) t 
  have h__law_told := gd__law_told (P := P) (w := w) (bs := bs) t h_check_orders h_order_of h_check_word h_kind_of
  exact gd_law t h_is_orders h__law_draws h__law_pick h__law_kind h__law_told
end
theorem tb_mk {K : Frag} {h : Heap} {mg : Str → Option Value} (X : K.In h) (G : h.Ns mainGlobals mg)
    {f0 : Addr} {od0 an0 : Option Addr} {sl0 : Array (Option Value)} {oc0 kV0 dc0 pm0 cd0 ct0 : Value}
    {f1 : Addr} {od1 an1 : Option Addr} {sl1 : Array (Option Value)} {oc1 kV1 dc1 pm1 cd1 ct1 : Value}
    {f2 : Addr} {od2 an2 : Option Addr} {sl2 : Array (Option Value)} {oc2 kV2 dc2 pm2 cd2 ct2 : Value}
    {f3 : Addr} {od3 an3 : Option Addr} {sl3 : Array (Option Value)} {oc3 kV3 dc3 pm3 cd3 ct3 : Value}
    {f4 : Addr} {od4 an4 : Option Addr} {sl4 : Array (Option Value)} {oc4 kV4 dc4 pm4 cd4 ct4 : Value}
    {f5 : Addr} {od5 an5 : Option Addr} {sl5 : Array (Option Value)} {oc5 kV5 dc5 pm5 cd5 ct5 : Value}
    {f6 : Addr} {od6 an6 : Option Addr} {sl6 : Array (Option Value)} {oc6 kV6 dc6 pm6 cd6 ct6 : Value}
    {f7 : Addr} {od7 an7 : Option Addr} {sl7 : Array (Option Value)} {oc7 kV7 dc7 pm7 cd7 ct7 : Value}
    {f8 : Addr} {od8 an8 : Option Addr} {sl8 : Array (Option Value)} {oc8 kV8 dc8 pm8 cd8 ct8 : Value}
    {f9 : Addr} {od9 an9 : Option Addr} {sl9 : Array (Option Value)} {oc9 kV9 dc9 pm9 cd9 ct9 : Value}
    {f10 : Addr} {od10 an10 : Option Addr} {sl10 : Array (Option Value)} {oc10 kV10 dc10 pm10 cd10 ct10 : Value}
    {f11 : Addr} {od11 an11 : Option Addr} {sl11 : Array (Option Value)} {oc11 kV11 dc11 pm11 cd11 ct11 : Value}
    {f12 : Addr} {od12 an12 : Option Addr} {sl12 : Array (Option Value)} {oc12 kV12 dc12 pm12 cd12 ct12 : Value}
    {f13 : Addr} {od13 an13 : Option Addr} {sl13 : Array (Option Value)} {oc13 kV13 dc13 pm13 cd13 ct13 : Value}
    {f14 : Addr} {od14 an14 : Option Addr} {sl14 : Array (Option Value)} {oc14 kV14 dc14 pm14 cd14 ct14 : Value}
    {t_GREATEST : Tok}
    {t_LETTERS : Tok}
    {t_LONGEST : Tok}
    {a_BadNumber : Addr}
    {a_FoldError : Addr}
    {a_NotOrders : Addr}
    {a_NotWord : Addr}
    (a0 : PySem.W.nsIn K mainGlobals "is_orders" = some (some (.ref f0)))
    (l0 : K.lookup f0 = some ⟨oc0, od0, .func (PySem.W.fnOf "is_orders" "is_orders" (L2.defArgs s_is_orders) (L2.defBody s_is_orders) (L2.defScope s_is_orders) .none kV0 dc0 pm0 an0 cd0 ct0), sl0⟩)
    (c0 : PySem.W.codeIn K cd0 "is_orders" = true)
    (k0 : PySem.W.keepIn K (.ref f0) = true)
    (a1 : PySem.W.nsIn K mainGlobals "check_orders" = some (some (.ref f1)))
    (l1 : K.lookup f1 = some ⟨oc1, od1, .func (PySem.W.fnOf "check_orders" "check_orders" (L2.defArgs s_check_orders) (L2.defBody s_check_orders) (L2.defScope s_check_orders) .none kV1 dc1 pm1 an1 cd1 ct1), sl1⟩)
    (c1 : PySem.W.codeIn K cd1 "check_orders" = true)
    (k1 : PySem.W.keepIn K (.ref f1) = true)
    (a2 : PySem.W.nsIn K mainGlobals "check_letters" = some (some (.ref f2)))
    (l2 : K.lookup f2 = some ⟨oc2, od2, .func (PySem.W.fnOf "check_letters" "check_letters" (L2.defArgs s_check_letters) (L2.defBody s_check_letters) (L2.defScope s_check_letters) .none kV2 dc2 pm2 an2 cd2 ct2), sl2⟩)
    (c2 : PySem.W.codeIn K cd2 "check_letters" = true)
    (k2 : PySem.W.keepIn K (.ref f2) = true)
    (a3 : PySem.W.nsIn K mainGlobals "order_between" = some (some (.ref f3)))
    (l3 : K.lookup f3 = some ⟨oc3, od3, .func (PySem.W.fnOf "order_between" "order_between" (L2.defArgs s_order_between) (L2.defBody s_order_between) (L2.defScope s_order_between) .none kV3 dc3 pm3 an3 cd3 ct3), sl3⟩)
    (c3 : PySem.W.codeIn K cd3 "order_between" = true)
    (k3 : PySem.W.keepIn K (.ref f3) = true)
    (a4 : PySem.W.nsIn K mainGlobals "order_of" = some (some (.ref f4)))
    (l4 : K.lookup f4 = some ⟨oc4, od4, .func (PySem.W.fnOf "order_of" "order_of" (L2.defArgs s_order_of) (L2.defBody s_order_of) (L2.defScope s_order_of) .none kV4 dc4 pm4 an4 cd4 ct4), sl4⟩)
    (c4 : PySem.W.codeIn K cd4 "order_of" = true)
    (k4 : PySem.W.keepIn K (.ref f4) = true)
    (a5 : PySem.W.nsIn K mainGlobals "is_word" = some (some (.ref f5)))
    (l5 : K.lookup f5 = some ⟨oc5, od5, .func (PySem.W.fnOf "is_word" "is_word" (L2.defArgs s_is_word) (L2.defBody s_is_word) (L2.defScope s_is_word) .none kV5 dc5 pm5 an5 cd5 ct5), sl5⟩)
    (c5 : PySem.W.codeIn K cd5 "is_word" = true)
    (k5 : PySem.W.keepIn K (.ref f5) = true)
    (a6 : PySem.W.nsIn K mainGlobals "check_word" = some (some (.ref f6)))
    (l6 : K.lookup f6 = some ⟨oc6, od6, .func (PySem.W.fnOf "check_word" "check_word" (L2.defArgs s_check_word) (L2.defBody s_check_word) (L2.defScope s_check_word) .none kV6 dc6 pm6 an6 cd6 ct6), sl6⟩)
    (c6 : PySem.W.codeIn K cd6 "check_word" = true)
    (k6 : PySem.W.keepIn K (.ref f6) = true)
    (a7 : PySem.W.nsIn K mainGlobals "kind_of" = some (some (.ref f7)))
    (l7 : K.lookup f7 = some ⟨oc7, od7, .func (PySem.W.fnOf "kind_of" "kind_of" (L2.defArgs s_kind_of) (L2.defBody s_kind_of) (L2.defScope s_kind_of) .none kV7 dc7 pm7 an7 cd7 ct7), sl7⟩)
    (c7 : PySem.W.codeIn K cd7 "kind_of" = true)
    (k7 : PySem.W.keepIn K (.ref f7) = true)
    (a8 : PySem.W.nsIn K mainGlobals "_law_number" = some (some (.ref f8)))
    (l8 : K.lookup f8 = some ⟨oc8, od8, .func (PySem.W.fnOf "_law_number" "_law_number" (L2.defArgs s__law_number) (L2.defBody s__law_number) (L2.defScope s__law_number) .none kV8 dc8 pm8 an8 cd8 ct8), sl8⟩)
    (c8 : PySem.W.codeIn K cd8 "_law_number" = true)
    (k8 : PySem.W.keepIn K (.ref f8) = true)
    (a9 : PySem.W.nsIn K mainGlobals "_law_draws" = some (some (.ref f9)))
    (l9 : K.lookup f9 = some ⟨oc9, od9, .func (PySem.W.fnOf "_law_draws" "_law_draws" (L2.defArgs s__law_draws) (L2.defBody s__law_draws) (L2.defScope s__law_draws) .none kV9 dc9 pm9 an9 cd9 ct9), sl9⟩)
    (c9 : PySem.W.codeIn K cd9 "_law_draws" = true)
    (k9 : PySem.W.keepIn K (.ref f9) = true)
    (a10 : PySem.W.nsIn K mainGlobals "_law_draw" = some (some (.ref f10)))
    (l10 : K.lookup f10 = some ⟨oc10, od10, .func (PySem.W.fnOf "_law_draw" "_law_draw" (L2.defArgs s__law_draw) (L2.defBody s__law_draw) (L2.defScope s__law_draw) .none kV10 dc10 pm10 an10 cd10 ct10), sl10⟩)
    (c10 : PySem.W.codeIn K cd10 "_law_draw" = true)
    (k10 : PySem.W.keepIn K (.ref f10) = true)
    (a11 : PySem.W.nsIn K mainGlobals "_law_pick" = some (some (.ref f11)))
    (l11 : K.lookup f11 = some ⟨oc11, od11, .func (PySem.W.fnOf "_law_pick" "_law_pick" (L2.defArgs s__law_pick) (L2.defBody s__law_pick) (L2.defScope s__law_pick) .none kV11 dc11 pm11 an11 cd11 ct11), sl11⟩)
    (c11 : PySem.W.codeIn K cd11 "_law_pick" = true)
    (k11 : PySem.W.keepIn K (.ref f11) = true)
    (a12 : PySem.W.nsIn K mainGlobals "_law_kind" = some (some (.ref f12)))
    (l12 : K.lookup f12 = some ⟨oc12, od12, .func (PySem.W.fnOf "_law_kind" "_law_kind" (L2.defArgs s__law_kind) (L2.defBody s__law_kind) (L2.defScope s__law_kind) .none kV12 dc12 pm12 an12 cd12 ct12), sl12⟩)
    (c12 : PySem.W.codeIn K cd12 "_law_kind" = true)
    (k12 : PySem.W.keepIn K (.ref f12) = true)
    (a13 : PySem.W.nsIn K mainGlobals "_law_told" = some (some (.ref f13)))
    (l13 : K.lookup f13 = some ⟨oc13, od13, .func (PySem.W.fnOf "_law_told" "_law_told" (L2.defArgs s__law_told) (L2.defBody s__law_told) (L2.defScope s__law_told) .none kV13 dc13 pm13 an13 cd13 ct13), sl13⟩)
    (c13 : PySem.W.codeIn K cd13 "_law_told" = true)
    (k13 : PySem.W.keepIn K (.ref f13) = true)
    (a14 : PySem.W.nsIn K mainGlobals "law" = some (some (.ref f14)))
    (l14 : K.lookup f14 = some ⟨oc14, od14, .func (PySem.W.fnOf "law" "law" (L2.defArgs s_law) (L2.defBody s_law) (L2.defScope s_law) .none kV14 dc14 pm14 an14 cd14 ct14), sl14⟩)
    (c14 : PySem.W.codeIn K cd14 "law" = true)
    (k14 : PySem.W.keepIn K (.ref f14) = true)
    (z_GREATEST : PySem.W.nsIn K mainGlobals "GREATEST" = some (some (.int 12 t_GREATEST)))
    (z_LETTERS : PySem.W.nsIn K mainGlobals "LETTERS" = some (some (.str "012" t_LETTERS)))
    (z_LONGEST : PySem.W.nsIn K mainGlobals "LONGEST" = some (some (.int 60 t_LONGEST)))
    (n_all : PySem.W.nsIn K mainGlobals "all" = some none)
    (n_bool : PySem.W.nsIn K mainGlobals "bool" = some none)
    (n_int : PySem.W.nsIn K mainGlobals "int" = some none)
    (n_isinstance : PySem.W.nsIn K mainGlobals "isinstance" = some none)
    (n_len : PySem.W.nsIn K mainGlobals "len" = some none)
    (n_range : PySem.W.nsIn K mainGlobals "range" = some none)
    (n_repr : PySem.W.nsIn K mainGlobals "repr" = some none)
    (n_sum : PySem.W.nsIn K mainGlobals "sum" = some none)
    (n_tuple : PySem.W.nsIn K mainGlobals "tuple" = some none)
    (q_BadNumber : PySem.W.nsIn K mainGlobals "BadNumber" = some (some (.ref a_BadNumber)))
    (kp_BadNumber : PySem.W.keepIn K (.ref a_BadNumber) = true)
    (xs_BadNumber : PySem.W.subIn K (.ref a_BadNumber) (.type "BaseException") = some true)
    (tp_BadNumber : PySem.W.typeIn K (.ref a_BadNumber) = some (.type "type"))
    (hg_BadNumber : PySem.W.findIn K (.ref a_BadNumber) "__getattribute__" = some (some (.builtin "BaseException.__getattribute__")))
    (hk_BadNumber : PySem.W.findIn K (.ref a_BadNumber) "__getattr__" = some none)
    (hd_BadNumber : PySem.W.hasDictIn K a_BadNumber = true)
    (ha_BadNumber : PySem.W.findIn K (.ref a_BadNumber) "__class__" = some (some (.builtin "object.__class__")))
    (hn_BadNumber : PySem.W.specialIn K (.builtin "object.__class__") "__get__" = some (some (.builtin "getset_descriptor.__get__")))
    (ht_BadNumber : PySem.W.takesIn K (.builtin "object.__class__") = some true)
    (hm_BadNumber : PySem.W.mroIn K a_BadNumber (.type "object") = some true)
    (q_FoldError : PySem.W.nsIn K mainGlobals "FoldError" = some (some (.ref a_FoldError)))
    (kp_FoldError : PySem.W.keepIn K (.ref a_FoldError) = true)
    (xs_FoldError : PySem.W.subIn K (.ref a_FoldError) (.type "BaseException") = some true)
    (tp_FoldError : PySem.W.typeIn K (.ref a_FoldError) = some (.type "type"))
    (hg_FoldError : PySem.W.findIn K (.ref a_FoldError) "__getattribute__" = some (some (.builtin "BaseException.__getattribute__")))
    (hk_FoldError : PySem.W.findIn K (.ref a_FoldError) "__getattr__" = some none)
    (hd_FoldError : PySem.W.hasDictIn K a_FoldError = true)
    (ha_FoldError : PySem.W.findIn K (.ref a_FoldError) "__class__" = some (some (.builtin "object.__class__")))
    (hn_FoldError : PySem.W.specialIn K (.builtin "object.__class__") "__get__" = some (some (.builtin "getset_descriptor.__get__")))
    (ht_FoldError : PySem.W.takesIn K (.builtin "object.__class__") = some true)
    (hm_FoldError : PySem.W.mroIn K a_FoldError (.type "object") = some true)
    (q_NotOrders : PySem.W.nsIn K mainGlobals "NotOrders" = some (some (.ref a_NotOrders)))
    (kp_NotOrders : PySem.W.keepIn K (.ref a_NotOrders) = true)
    (xs_NotOrders : PySem.W.subIn K (.ref a_NotOrders) (.type "BaseException") = some true)
    (tp_NotOrders : PySem.W.typeIn K (.ref a_NotOrders) = some (.type "type"))
    (hg_NotOrders : PySem.W.findIn K (.ref a_NotOrders) "__getattribute__" = some (some (.builtin "BaseException.__getattribute__")))
    (hk_NotOrders : PySem.W.findIn K (.ref a_NotOrders) "__getattr__" = some none)
    (hd_NotOrders : PySem.W.hasDictIn K a_NotOrders = true)
    (ha_NotOrders : PySem.W.findIn K (.ref a_NotOrders) "__class__" = some (some (.builtin "object.__class__")))
    (hn_NotOrders : PySem.W.specialIn K (.builtin "object.__class__") "__get__" = some (some (.builtin "getset_descriptor.__get__")))
    (ht_NotOrders : PySem.W.takesIn K (.builtin "object.__class__") = some true)
    (hm_NotOrders : PySem.W.mroIn K a_NotOrders (.type "object") = some true)
    (q_NotWord : PySem.W.nsIn K mainGlobals "NotWord" = some (some (.ref a_NotWord)))
    (kp_NotWord : PySem.W.keepIn K (.ref a_NotWord) = true)
    (xs_NotWord : PySem.W.subIn K (.ref a_NotWord) (.type "BaseException") = some true)
    (tp_NotWord : PySem.W.typeIn K (.ref a_NotWord) = some (.type "type"))
    (hg_NotWord : PySem.W.findIn K (.ref a_NotWord) "__getattribute__" = some (some (.builtin "BaseException.__getattribute__")))
    (hk_NotWord : PySem.W.findIn K (.ref a_NotWord) "__getattr__" = some none)
    (hd_NotWord : PySem.W.hasDictIn K a_NotWord = true)
    (ha_NotWord : PySem.W.findIn K (.ref a_NotWord) "__class__" = some (some (.builtin "object.__class__")))
    (hn_NotWord : PySem.W.specialIn K (.builtin "object.__class__") "__get__" = some (some (.builtin "getset_descriptor.__get__")))
    (ht_NotWord : PySem.W.takesIn K (.builtin "object.__class__") = some true)
    (hm_NotWord : PySem.W.mroIn K a_NotWord (.type "object") = some true)
    (y_NotOrders : PySem.W.excIn K a_NotOrders [.type "ValueError", .type "Exception", .type "BaseException", .type "object"] "ValueError.__new__" = true)
    (y_NotWord : PySem.W.excIn K a_NotWord [.type "ValueError", .type "Exception", .type "BaseException", .type "object"] "ValueError.__new__" = true)
    (s_BadNumber_BadNumber : PySem.W.subIn K (.ref a_BadNumber) (.ref a_BadNumber) = some true)
    (s_FoldError_FoldError : PySem.W.subIn K (.ref a_FoldError) (.ref a_FoldError) = some true)
    (s_NotOrders_BadNumber : PySem.W.subIn K (.ref a_NotOrders) (.ref a_BadNumber) = some false)
    (s_NotOrders_FoldError : PySem.W.subIn K (.ref a_NotOrders) (.ref a_FoldError) = some true)
    (s_NotOrders_NotOrders : PySem.W.subIn K (.ref a_NotOrders) (.ref a_NotOrders) = some true)
    (s_NotOrders_NotWord : PySem.W.subIn K (.ref a_NotOrders) (.ref a_NotWord) = some false)
    (s_NotWord_BadNumber : PySem.W.subIn K (.ref a_NotWord) (.ref a_BadNumber) = some false)
    (s_NotWord_FoldError : PySem.W.subIn K (.ref a_NotWord) (.ref a_FoldError) = some true)
    (s_NotWord_NotOrders : PySem.W.subIn K (.ref a_NotWord) (.ref a_NotOrders) = some false)
    (s_NotWord_NotWord : PySem.W.subIn K (.ref a_NotWord) (.ref a_NotWord) = some true)
    : Tb K mg a_BadNumber a_FoldError a_NotOrders a_NotWord :=
  ⟨fun x f h => PySem.W.mg_of X G h, defAt a0 l0 c0 k0, defAt a1 l1 c1 k1, defAt a2 l2 c2 k2, defAt a3 l3 c3 k3, defAt a4 l4 c4 k4, defAt a5 l5 c5 k5, defAt a6 l6 c6 k6, defAt a7 l7 c7 k7, defAt a8 l8 c8 k8, defAt a9 l9 c9 k9, defAt a10 l10 c10 k10, defAt a11 l11 c11 k11, defAt a12 l12 c12 k12, defAt a13 l13 c13 k13, defAt a14 l14 c14 k14, ⟨_, PySem.W.mg_of X G z_GREATEST, ⟨_, rfl⟩⟩, ⟨_, PySem.W.mg_of X G z_LETTERS, ⟨_, rfl⟩⟩, ⟨_, PySem.W.mg_of X G z_LONGEST, ⟨_, rfl⟩⟩, PySem.W.mg_none_of X G n_all, PySem.W.mg_none_of X G n_bool, PySem.W.mg_none_of X G n_int, PySem.W.mg_none_of X G n_isinstance, PySem.W.mg_none_of X G n_len, PySem.W.mg_none_of X G n_range, PySem.W.mg_none_of X G n_repr, PySem.W.mg_none_of X G n_sum, PySem.W.mg_none_of X G n_tuple, ⟨PySem.W.mg_of X G q_BadNumber, kp_BadNumber, xs_BadNumber, tp_BadNumber, hg_BadNumber, hk_BadNumber, hd_BadNumber, ha_BadNumber, hn_BadNumber, ht_BadNumber, hm_BadNumber⟩, ⟨PySem.W.mg_of X G q_FoldError, kp_FoldError, xs_FoldError, tp_FoldError, hg_FoldError, hk_FoldError, hd_FoldError, ha_FoldError, hn_FoldError, ht_FoldError, hm_FoldError⟩, ⟨PySem.W.mg_of X G q_NotOrders, kp_NotOrders, xs_NotOrders, tp_NotOrders, hg_NotOrders, hk_NotOrders, hd_NotOrders, ha_NotOrders, hn_NotOrders, ht_NotOrders, hm_NotOrders⟩, ⟨PySem.W.mg_of X G q_NotWord, kp_NotWord, xs_NotWord, tp_NotWord, hg_NotWord, hk_NotWord, hd_NotWord, ha_NotWord, hn_NotWord, ht_NotWord, hm_NotWord⟩, y_NotOrders, y_NotWord, s_BadNumber_BadNumber, s_FoldError_FoldError, s_NotOrders_BadNumber, s_NotOrders_FoldError, s_NotOrders_NotOrders, s_NotOrders_NotWord, s_NotWord_BadNumber, s_NotWord_FoldError, s_NotWord_NotOrders, s_NotWord_NotWord⟩
end Fd.k00
end
section
set_option maxRecDepth 100000
set_option maxHeartbeats 2000000
namespace Fd.k00
open PySem
theorem f_number (c : Int) : F__law_number.f [.int c] = some (.ok false (.int (if c < 0 then 0 - c else c)) []) := by
  refine run_is rfl ?_
  by_cases h : c < 0 <;> simp [h, b__law_number, -Prod.exists, cB, apd, flatD, cmpD, ordK, keeps, truD, binD, unD, retV, Post, outsE, hit, pass, biD, itD, tgIx, ioIx, outD, fzOk, fz, fzZ, modeAt, setTg, setSeq, asgV, putV, augD, mtTy, muts, mtMode, muD, mtD, sets, idxD, partD, isNop, wipeE, cL, boolX, intX, muX, parX, roX]
def top (ds : List Int) : Int := ds.getLast?.getD 0
theorem f_draw (ds : List Int) : F__law_draw.f [.list (ds.map .int)] = some (.ok false (.int (top ds)) [.list (ds.dropLast.map .int)]) := by
  refine run_is rfl ?_
  rcases List.eq_nil_or_concat ds with rfl | ⟨xs, x, rfl⟩ <;> simp [top, b__law_draw, -Prod.exists, cB, apd, flatD, cmpD, ordK, keeps, truD, binD, unD, retV, Post, outsE, hit, pass, biD, itD, tgIx, ioIx, outD, fzOk, fz, fzZ, modeAt, setTg, setSeq, asgV, putV, augD, mtTy, muts, mtMode, muD, mtD, sets, idxD, partD, isNop, wipeE, cL, boolX, intX, muX, parX, roX]
theorem f_pick (ds : List Int) (m : Int) (h : m ≠ 0) : F__law_pick.f [.list (ds.map .int), .int m] = some (.ok false (.int ((top ds).fmod m)) [.list (ds.dropLast.map .int)]) := by
  refine run_is rfl ?_
  simp [b__law_pick, T__law_pick, ms__law_draw, h, f_draw, -Prod.exists, cB, apd, flatD, cmpD, ordK, keeps, truD, binD, unD, retV, Post, outsE, hit, pass, biD, itD, tgIx, ioIx, outD, fzOk, fz, fzZ, modeAt, setTg, setSeq, asgV, putV, augD, mtTy, muts, mtMode, muD, mtD, sets, idxD, partD, isNop, wipeE, cL, boolX, intX, muX, parX, roX]
def okO (n : Int) : Bool := decide (n = 0) || (decide (2 ≤ n) && decide (n ≤ 12))
def isO (ns : List Int) : Bool := decide (ns.length = 3) && ns.all okO
theorem len_eq (n m : Nat) : decide ((n : Int) = (m : Int)) = decide (n = m) := by
  by_cases h : n = m
  · simp [h]
  · have : ¬ (n : Int) = (m : Int) := by omega
    simp [h, this]
theorem f_is_orders (ns : List Int) (hz : ns.length ≤ sizeLine) : F_is_orders.f [.tuple (ns.map .int)] = some (.ok false (.bool (isO ns)) []) := by
  refine run_is rfl ?_
  have lc := lc_mapG PyData.int (fun n => .bool (okO n)) (T := T_is_orders) (elt := e1_is_orders) (own := [1]) (tg := .nm 1) (cond := .con (.bool true)) (Γ := [.ro (.tuple (ns.map .int)), .no]) (k := .ro) (xs := ns)
    (fun n _ => by
      by_cases h1 : n = 0 <;> by_cases h2 : 2 ≤ n <;> simp [e1_is_orders, okO, h1, h2, -Prod.exists, cB, apd, flatD, cmpD, ordK, keeps, truD, binD, unD, retV, Post, outsE, hit, pass, biD, itD, tgIx, ioIx, outD, fzOk, fz, fzZ, modeAt, setTg, setSeq, asgV, putV, augD, mtTy, muts, mtMode, muD, mtD, sets, idxD, partD, isNop, wipeE, cL, boolX, intX, muX, parX, roX])
  have e3 := len_eq ns.length 3
  by_cases h : ns.length = 3 <;> simp [isO, h, b_is_orders, hz, lc, bools_map, -Prod.exists, cB, apd, flatD, cmpD, ordK, keeps, truD, binD, unD, retV, Post, outsE, hit, pass, biD, itD, tgIx, ioIx, outD, fzOk, fz, fzZ, modeAt, setTg, setSeq, asgV, putV, augD, mtTy, muts, mtMode, muD, mtD, sets, idxD, partD, isNop, wipeE, cL, boolX, intX, muX, parX, roX] at e3 ⊢
  all_goals first | (rw [PySem.sizeLine_eq]; omega) | simp [e3]
theorem f_check_orders (ns : List Int) (hz : ns.length ≤ sizeLine) : F_check_orders.f [.tuple (ns.map .int)] = some (if isO ns = true then .ok false .none [] else .ex ⟨"NotOrders", none⟩ []) := by
  refine run_is rfl ?_
  cases h : isO ns <;> simp [h, f_is_orders ns hz, b_check_orders, T_check_orders, ms_is_orders, -Prod.exists, cB, apd, flatD, cmpD, ordK, keeps, truD, binD, unD, retV, Post, outsE, hit, pass, biD, itD, tgIx, ioIx, outD, fzOk, fz, fzZ, modeAt, setTg, setSeq, asgV, putV, augD, mtTy, muts, mtMode, muD, mtD, sets, idxD, partD, isNop, wipeE, cL, boolX, intX, muX, parX, roX]
def isL (x : Str) : Bool := decide (x.length = 1) && isSub x "012"
theorem f_check_letters (x y : Str) (hx : x.length ≤ sizeLine) (hy : y.length ≤ sizeLine) (sx : PyData.strOk x = true) (sy : PyData.strOk y = true) : F_check_letters.f [.str x, .str y] = some (if (isL x && isL y && !decide (x = y)) = true then .ok false .none [] else .ex ⟨"NotWord", none⟩ []) := by
  refine run_is rfl ?_
  have stp : ∀ (u v : Slot) (z : Str), z.length ≤ sizeLine → evalSs T_check_letters l1_check_letters [u, v, .ro (.str z)] = some (if isL z = true then .nx [u, v, .ro (.str z)] else .ex ⟨"NotWord", none⟩ [u, v, .ro (.str z)]) := by
    intro u v z hz
    have e1 := len_eq z.length 1
    have : ∃ o, evalSs T_check_letters l1_check_letters [u, v, .ro (.str z)] = some o ∧ o = (if isL z = true then .nx [u, v, .ro (.str z)] else .ex ⟨"NotWord", none⟩ [u, v, .ro (.str z)]) := by
      apply cB_ok
      by_cases h1 : z.length = 1 <;> cases h2 : isSub z "012" <;> simp [h1, h2, isL, l1_check_letters, hz, -Prod.exists, cB, apd, flatD, cmpD, ordK, keeps, truD, binD, unD, retV, Post, outsE, hit, pass, biD, itD, tgIx, ioIx, outD, fzOk, fz, fzZ, modeAt, setTg, setSeq, asgV, putV, augD, mtTy, muts, mtMode, muD, mtD, sets, idxD, partD, isNop, wipeE, cL, boolX, intX, muX, parX, roX] at e1 ⊢
      all_goals first | (rw [PySem.sizeLine_eq]; omega) | simp [e1]
    obtain ⟨o, e, rfl⟩ := this
    exact e
  have h2 : 2 ≤ sizeLine := by rw [PySem.sizeLine_eq]; omega
  cases h3 : isL x <;> cases h4 : isL y <;> by_cases h5 : x = y <;> simp [h2, h3, h4, h5, b_check_letters, foL, stp _ _ x hx, stp _ _ y hy, sx, sy, -Prod.exists, cB, apd, flatD, cmpD, ordK, keeps, truD, binD, unD, retV, Post, outsE, hit, pass, biD, itD, tgIx, ioIx, outD, fzOk, fz, fzZ, modeAt, setTg, setSeq, asgV, putV, augD, mtTy, muts, mtMode, muD, mtD, sets, idxD, partD, isNop, wipeE, cL, boolX, intX, muX, parX, roX]
  all_goals simp_all
/-! ### kinds -/
def ob (x y : Str) : Nat := if isSub "0" (x ++ y) = false then 1 else if isSub "1" (x ++ y) = true then 0 else 2
theorem f_order_between (a b c : Int) (x y : Str) (h : x.length + y.length ≤ sizeLine) : F_order_between.f [.tuple [.int a, .int b, .int c], .str x, .str y] = some (.ok false (.int (if ob x y = 0 then a else if ob x y = 1 then b else c)) []) := by
  refine run_is rfl ?_
  cases h1 : isSub "0" (x ++ y) <;> cases h2 : isSub "1" (x ++ y) <;> simp [h, h1, h2, ob, b_order_between, L2.atI, L2.ixN, -Prod.exists, cB, apd, flatD, cmpD, ordK, keeps, truD, binD, unD, retV, Post, outsE, hit, pass, biD, itD, tgIx, ioIx, outD, fzOk, fz, fzZ, modeAt, setTg, setSeq, asgV, putV, augD, mtTy, muts, mtMode, muD, mtD, sets, idxD, partD, isNop, wipeE, cL, boolX, intX, muX, parX, roX]
theorem f_order_of (a b c : Int) (x y : Str) (hx : x.length ≤ sizeLine) (hy : y.length ≤ sizeLine) (h : x.length + y.length ≤ sizeLine) (sx : PyData.strOk x = true) (sy : PyData.strOk y = true) : F_order_of.f [.tuple [.int a, .int b, .int c], .str x, .str y] =
    some (if isO [a, b, c] = true then if (isL x && isL y && !decide (x = y)) = true then .ok false (.int (if ob x y = 0 then a else if ob x y = 1 then b else c)) [] else .ex ⟨"NotWord", none⟩ [] else .ex ⟨"NotOrders", none⟩ []) := by
  refine run_is rfl ?_
  have e1 := f_check_orders [a, b, c] (by simp)
  have e2 := f_check_letters x y hx hy sx sy
  have e3 := f_order_between a b c x y h
  simp only [List.map_cons, List.map_nil] at e1
  cases h1 : isO [a, b, c] <;> cases h2 : (isL x && isL y && !decide (x = y)) <;> simp only [h1, h2, if_true, Bool.false_eq_true, if_false] at e1 e2 ⊢ <;> (unfold b_order_of; refine cB_step ?_; simp [e1, T_order_of, ms_check_orders, -Prod.exists, apd, flatD, cmpD, ordK, keeps, truD, binD, unD, retV, Post, outsE, hit, pass, biD, itD, tgIx, ioIx, outD, fzOk, fz, fzZ, modeAt, setTg, setSeq, asgV, putV, augD, mtTy, muts, mtMode, muD, mtD, sets, idxD, partD, isNop, wipeE, cL, boolX, intX, muX, parX, roX])
  all_goals (refine cB_step ?_; simp [e2, T_order_of, ms_check_letters, -Prod.exists, apd, flatD, cmpD, ordK, keeps, truD, binD, unD, retV, Post, outsE, hit, pass, biD, itD, tgIx, ioIx, outD, fzOk, fz, fzZ, modeAt, setTg, setSeq, asgV, putV, augD, mtTy, muts, mtMode, muD, mtD, sets, idxD, partD, isNop, wipeE, cL, boolX, intX, muX, parX, roX])
  all_goals (refine cB_step ?_; simp [e3, T_order_of, ms_order_between, -Prod.exists, apd, flatD, cmpD, ordK, keeps, truD, binD, unD, retV, Post, outsE, hit, pass, biD, itD, tgIx, ioIx, outD, fzOk, fz, fzZ, modeAt, setTg, setSeq, asgV, putV, augD, mtTy, muts, mtMode, muD, mtD, sets, idxD, partD, isNop, wipeE, cL, boolX, intX, muX, parX, roX])
theorem f_order_ofX (ns : List Int) (hz : ns.length ≤ sizeLine) (h1 : isO ns = false) (x y : Str) : F_order_of.f [.tuple (ns.map .int), .str x, .str y] = some (.ex ⟨"NotOrders", none⟩ []) := by
  refine run_is rfl ?_
  have e1 := f_check_orders ns hz
  simp only [h1, Bool.false_eq_true, if_false] at e1
  unfold b_order_of
  refine cB_step ?_
  simp [e1, T_order_of, ms_check_orders, -Prod.exists, apd, flatD, cmpD, ordK, keeps, truD, binD, unD, retV, Post, outsE, hit, pass, biD, itD, tgIx, ioIx, outD, fzOk, fz, fzZ, modeAt, setTg, setSeq, asgV, putV, augD, mtTy, muts, mtMode, muD, mtD, sets, idxD, partD, isNop, wipeE, cL, boolX, intX, muX, parX, roX]
def chars (x : Str) : List Str := x.cps.toList.map fun c => ⟨#[c]⟩
def isW (x : Str) (m : Int) : Bool := decide ((x.length : Int) ≤ m) && (chars x).all fun c => isSub c "012"
theorem chars_len (x : Str) : (chars x).length = x.length := by simp [chars, Str.length]
theorem chars_map (x : Str) : (x.cps.toList.map fun c => PyData.str ⟨#[c]⟩) = (chars x).map PyData.str := by simp [chars]
theorem f_is_word (x : Str) (m : Int) (hx : x.length ≤ sizeLine) : F_is_word.f [.str x, .int m] = some (.ok false (.bool (isW x m)) []) := by
  refine run_is rfl ?_
  have lc := lc_mapG PyData.str (fun c => .bool (isSub c "012")) (T := T_is_word) (elt := e1_is_word) (own := [2]) (tg := .nm 2) (cond := .con (.bool true)) (Γ := [.ro (.str x), .ro (.int m), .no]) (k := .ro) (xs := chars x)
    (fun c _ => by simp [e1_is_word, -Prod.exists, cB, apd, flatD, cmpD, ordK, keeps, truD, binD, unD, retV, Post, outsE, hit, pass, biD, itD, tgIx, ioIx, outD, fzOk, fz, fzZ, modeAt, setTg, setSeq, asgV, putV, augD, mtTy, muts, mtMode, muD, mtD, sets, idxD, partD, isNop, wipeE, cL, boolX, intX, muX, parX, roX])
  have hc : (chars x).length ≤ sizeLine := by rw [chars_len]; exact hx
  by_cases h : (x.length : Int) ≤ m <;> simp [h, isW, b_is_word, hx, hc, chars_map, lc, bools_map, -Prod.exists, cB, apd, flatD, cmpD, ordK, keeps, truD, binD, unD, retV, Post, outsE, hit, pass, biD, itD, tgIx, ioIx, outD, fzOk, fz, fzZ, modeAt, setTg, setSeq, asgV, putV, augD, mtTy, muts, mtMode, muD, mtD, sets, idxD, partD, isNop, wipeE, cL, boolX, intX, muX, parX, roX]
theorem f_check_word (x : Str) (hx : x.length ≤ sizeLine) : F_check_word.f [.str x] = some (if isW x 60 = true then .ok false .none [] else .ex ⟨"NotWord", none⟩ []) := by
  refine run_is rfl ?_
  cases h : isW x 60 <;> simp [h, f_is_word x 60 hx, b_check_word, T_check_word, ms_is_word, -Prod.exists, cB, apd, flatD, cmpD, ordK, keeps, truD, binD, unD, retV, Post, outsE, hit, pass, biD, itD, tgIx, ioIx, outD, fzOk, fz, fzZ, modeAt, setTg, setSeq, asgV, putV, augD, mtTy, muts, mtMode, muD, mtD, sets, idxD, partD, isNop, wipeE, cL, boolX, intX, muX, parX, roX]
end Fd.k00
end
section
set_option maxRecDepth 100000
set_option maxHeartbeats 2000000
namespace Fd.k00
open PySem
def pp (p n : Int) : Int := if 0 < n then p * n else p
def kp (a b c : Int) : Int := pp (pp (pp 1 a) b) c
def tt (p n : Int) : Int := if 0 < n then p.fdiv n else 0
def kt (a b c : Int) : Int := tt (kp a b c) a + (tt (kp a b c) b + tt (kp a b c) c)
def kindS (t p : Int) : Str := if p < t then "round" else if t = p then "flat" else "wide"
theorem okO_b {n : Int} (h : okO n = true) : n = 0 ∨ (2 ≤ n ∧ n ≤ 12) := by
  simpa [okO] using h
theorem small12 {n : Int} (h : n = 0 ∨ (2 ≤ n ∧ n ≤ 12)) : small n = true := small_lit (by omega) (by omega)
theorem isO3 {a b c : Int} (h : isO [a, b, c] = true) : okO a = true ∧ okO b = true ∧ okO c = true := by
  simpa [isO] using h
theorem f_kind_of (a b c : Int) (h : isO [a, b, c] = true) : F_kind_of.f [.tuple [.int a, .int b, .int c]] = some (.ok false (.str (kindS (kt a b c) (kp a b c))) []) := by
  obtain ⟨ha, hb, hc⟩ := isO3 h
  refine run_is rfl ?_
  have e1 := f_check_orders [a, b, c] (by simp)
  simp only [List.map_cons, List.map_nil, h, if_true] at e1
  have stp : ∀ (u s : Slot) (p n : Int), okO n = true → evalSs T_kind_of l3_kind_of [u, .ro (.int p), .ro (.int n), s] = some (.nx [u, .ro (.int (pp p n)), .ro (.int n), s]) := by
    intro u s p n hn
    have hs := small12 (okO_b hn)
    apply eq_of
    unfold l3_kind_of
    refine cB_step ?_
    by_cases h1 : 0 < n <;> simp [h1, pp, hs, cB, -Prod.exists, apd, flatD, cmpD, ordK, keeps, truD, binD, unD, retV, Post, outsE, hit, pass, biD, itD, tgIx, ioIx, outD, fzOk, fz, fzZ, modeAt, setTg, setSeq, asgV, putV, augD, mtTy, muts, mtMode, muD, mtD, sets, idxD, partD, isNop, wipeE, cL, boolX, intX, muX, parX, roX]
  unfold b_kind_of
  refine cB_step ?_
  simp [e1, T_kind_of, ms_check_orders, -Prod.exists, apd, flatD, cmpD, ordK, keeps, truD, binD, unD, retV, Post, outsE, hit, pass, biD, itD, tgIx, ioIx, outD, fzOk, fz, fzZ, modeAt, setTg, setSeq, asgV, putV, augD, mtTy, muts, mtMode, muD, mtD, sets, idxD, partD, isNop, wipeE, cL, boolX, intX, muX, parX, roX]
  refine cB_step ?_
  simp [-Prod.exists, apd, flatD, cmpD, ordK, keeps, truD, binD, unD, retV, Post, outsE, hit, pass, biD, itD, tgIx, ioIx, outD, fzOk, fz, fzZ, modeAt, setTg, setSeq, asgV, putV, augD, mtTy, muts, mtMode, muD, mtD, sets, idxD, partD, isNop, wipeE, cL, boolX, intX, muX, parX, roX]
  refine cB_step ?_
  simp [foL, stp, ha, hb, hc, -Prod.exists, apd, flatD, cmpD, ordK, keeps, truD, binD, unD, retV, Post, outsE, hit, pass, biD, itD, tgIx, ioIx, outD, fzOk, fz, fzZ, modeAt, setTg, setSeq, asgV, putV, augD, mtTy, muts, mtMode, muD, mtD, sets, idxD, partD, isNop, wipeE, cL, boolX, intX, muX, parX, roX]
  have lc := lc_fm PyData.int (fun n => if 0 < n then [.int ((kp a b c).fdiv n)] else []) (T := T_kind_of) (elt := e1_kind_of) (own := [2]) (tg := .nm 2) (cond := c2_kind_of) (Γ := [.ro (.tuple [.int a, .int b, .int c]), .ro (.int (kp a b c)), .ro (.int c), .no]) (k := .ro) (xs := [a, b, c])
    (fun n hn => by
      have hn' : n = 0 ∨ (2 ≤ n ∧ n ≤ 12) := by
        simp at hn
        rcases hn with rfl | rfl | rfl
        · exact okO_b ha
        · exact okO_b hb
        · exact okO_b hc
      by_cases h1 : 0 < n
      · have h2 : n ≠ 0 := by omega
        have h3 : n.natAbs < 1073741824 := by omega
        simp [h1, h2, h3, e1_kind_of, c2_kind_of, -Prod.exists, apd, flatD, cmpD, ordK, keeps, truD, binD, unD, retV, Post, outsE, hit, pass, biD, itD, tgIx, ioIx, outD, fzOk, fz, fzZ, modeAt, setTg, setSeq, asgV, putV, augD, mtTy, muts, mtMode, muD, mtD, sets, idxD, partD, isNop, wipeE, cL, boolX, intX, muX, parX, roX]
      · simp [h1, e1_kind_of, c2_kind_of, -Prod.exists, apd, flatD, cmpD, ordK, keeps, truD, binD, unD, retV, Post, outsE, hit, pass, biD, itD, tgIx, ioIx, outD, fzOk, fz, fzZ, modeAt, setTg, setSeq, asgV, putV, augD, mtTy, muts, mtMode, muD, mtD, sets, idxD, partD, isNop, wipeE, cL, boolX, intX, muX, parX, roX])
  simp only [List.map_cons, List.map_nil] at lc
  have ek : pp (pp (pp 1 a) b) c = kp a b c := rfl
  rw [ek]
  have sm : intsD ([a, b, c].flatMap fun n => if 0 < n then [PyData.int ((kp a b c).fdiv n)] else []) = some ([a, b, c].flatMap fun n => if 0 < n then [(kp a b c).fdiv n] else []) := by
    by_cases h1 : 0 < a <;> by_cases h2 : 0 < b <;> by_cases h3 : 0 < c <;> simp [h1, h2, h3, intsD]
  have st : ([a, b, c].flatMap fun n => if 0 < n then [(kp a b c).fdiv n] else []).sum = kt a b c := by
    unfold kt tt
    by_cases h1 : 0 < a <;> by_cases h2 : 0 < b <;> by_cases h3 : 0 < c <;> simp [h1, h2, h3]
  refine cB_step ?_
  simp only [cS, cE, cA, apd, List.getElem?_cons_zero, itD, -Prod.exists, apd, flatD, cmpD, ordK, keeps, truD, binD, unD, retV, Post, outsE, hit, pass, biD, itD, tgIx, ioIx, outD, fzOk, fz, fzZ, modeAt, setTg, setSeq, asgV, putV, augD, mtTy, muts, mtMode, muD, mtD, sets, idxD, partD, isNop, wipeE, cL, boolX, intX, muX, parX, roX]
  simp [lc, sm, st, -List.flatMap_cons, -Prod.exists, apd, flatD, cmpD, ordK, keeps, truD, binD, unD, retV, Post, outsE, hit, pass, biD, itD, tgIx, ioIx, outD, fzOk, fz, fzZ, modeAt, setTg, setSeq, asgV, putV, augD, mtTy, muts, mtMode, muD, mtD, sets, idxD, partD, isNop, wipeE, cL, boolX, intX, muX, parX, roX]
  refine cB_step ?_
  unfold kindS
  by_cases h1 : kp a b c < kt a b c
  · simp [h1, cB, -Prod.exists, apd, flatD, cmpD, ordK, keeps, truD, binD, unD, retV, Post, outsE, hit, pass, biD, itD, tgIx, ioIx, outD, fzOk, fz, fzZ, modeAt, setTg, setSeq, asgV, putV, augD, mtTy, muts, mtMode, muD, mtD, sets, idxD, partD, isNop, wipeE, cL, boolX, intX, muX, parX, roX]
  · by_cases h2 : kt a b c = kp a b c <;> simp [h1, h2, cB, -Prod.exists, apd, flatD, cmpD, ordK, keeps, truD, binD, unD, retV, Post, outsE, hit, pass, biD, itD, tgIx, ioIx, outD, fzOk, fz, fzZ, modeAt, setTg, setSeq, asgV, putV, augD, mtTy, muts, mtMode, muD, mtD, sets, idxD, partD, isNop, wipeE, cL, boolX, intX, muX, parX, roX]
def qq (n : Int) : Int := if 0 < n then n else 1000003
def lw (a b c : Int) : Int := qq a * qq b * qq c
def lt1 (a b c : Int) : Int :=
  let w := lw a b c
  let t1 := if 0 < a then 0 + w.fdiv (qq a) else 0
  let t2 := if 0 < b then t1 + w.fdiv (qq b) else t1
  if 0 < c then t2 + w.fdiv (qq c) else t2
theorem qq_le {n : Int} (h : n = 0 ∨ (2 ≤ n ∧ n ≤ 12)) : 0 < qq n ∧ qq n ≤ 1000003 := by
  unfold qq
  split <;> omega
theorem f_law_kind (a b c : Int) (h : isO [a, b, c] = true) : F__law_kind.f [.tuple [.int a, .int b, .int c]] = some (.ok false (.str (kindS (lt1 a b c) (lw a b c))) []) := by
  obtain ⟨ha, hb, hc⟩ := isO3 h
  obtain ⟨a1, a2⟩ := qq_le (okO_b ha)
  obtain ⟨b1, b2⟩ := qq_le (okO_b hb)
  obtain ⟨c1, c2⟩ := qq_le (okO_b hc)
  have sa : small (qq a) = true := small_lit (by omega) (by omega)
  have sc : small (qq c) = true := small_lit (by omega) (by omega)
  refine run_is rfl ?_
  have lc := lc_mapG PyData.int (fun n => .int (qq n)) (T := T__law_kind) (elt := e2__law_kind) (own := [1]) (tg := .nm 1) (cond := .con (.bool true)) (Γ := [.ro (.tuple [.int a, .int b, .int c]), .no, .no, .no, .no, .no, .no, .no]) (k := .ro) (xs := [a, b, c])
    (fun n hn => by
      by_cases h1 : 0 < n <;> simp [h1, qq, e2__law_kind, -Prod.exists, apd, flatD, cmpD, ordK, keeps, truD, binD, unD, retV, Post, outsE, hit, pass, biD, itD, tgIx, ioIx, outD, fzOk, fz, fzZ, modeAt, setTg, setSeq, asgV, putV, augD, mtTy, muts, mtMode, muD, mtD, sets, idxD, partD, isNop, wipeE, cL, boolX, intX, muX, parX, roX])
  simp only [List.map_cons, List.map_nil] at lc
  have stp : ∀ (s : Slot) (t w : Int) (k : Nat) (n : Int) (p : Int), [a, b, c][k]? = some n → p = qq n → 0 < p → p ≤ 1000003 →
      evalSs T__law_kind l1__law_kind [.ro (.tuple [.int a, .int b, .int c]), s, .ro (.int (qq a)), .ro (.int (qq b)), .ro (.int (qq c)), .ro (.int t), .ro (.int w), .ro (.int (k : Int))] =
      some (.nx [.ro (.tuple [.int a, .int b, .int c]), s, .ro (.int (qq a)), .ro (.int (qq b)), .ro (.int (qq c)), .ro (.int (if 0 < n then t + w.fdiv p else t)), .ro (.int w), .ro (.int (k : Int))]) := by
    intro s t w k n p hk hp p1 p2
    subst hp
    have hn0 : ¬ qq n = 0 := by omega
    have hn1 : (qq n).natAbs < 1073741824 := by omega
    apply eq_of
    unfold l1__law_kind
    refine cB_step ?_
    match k, hk with
    | 0, hk =>
      have e : a = n := by simpa using hk
      subst e
      by_cases h1 : 0 < a <;> simp [h1, hn0, hn1, L2.atI, L2.ixN, cB, -Prod.exists, apd, flatD, cmpD, ordK, keeps, truD, binD, unD, retV, Post, outsE, hit, pass, biD, itD, tgIx, ioIx, outD, fzOk, fz, fzZ, modeAt, setTg, setSeq, asgV, putV, augD, mtTy, muts, mtMode, muD, mtD, sets, idxD, partD, isNop, wipeE, cL, boolX, intX, muX, parX, roX]
    | 1, hk =>
      have e : b = n := by simpa using hk
      subst e
      by_cases h1 : 0 < b <;> simp [h1, hn0, hn1, L2.atI, L2.ixN, cB, -Prod.exists, apd, flatD, cmpD, ordK, keeps, truD, binD, unD, retV, Post, outsE, hit, pass, biD, itD, tgIx, ioIx, outD, fzOk, fz, fzZ, modeAt, setTg, setSeq, asgV, putV, augD, mtTy, muts, mtMode, muD, mtD, sets, idxD, partD, isNop, wipeE, cL, boolX, intX, muX, parX, roX]
    | 2, hk =>
      have e : c = n := by simpa using hk
      subst e
      by_cases h1 : 0 < c <;> simp [h1, hn0, hn1, L2.atI, L2.ixN, cB, -Prod.exists, apd, flatD, cmpD, ordK, keeps, truD, binD, unD, retV, Post, outsE, hit, pass, biD, itD, tgIx, ioIx, outD, fzOk, fz, fzZ, modeAt, setTg, setSeq, asgV, putV, augD, mtTy, muts, mtMode, muD, mtD, sets, idxD, partD, isNop, wipeE, cL, boolX, intX, muX, parX, roX]
    | k + 3, hk => simp at hk
  have s0 := fun s t w => stp s t w 0 a (qq a) rfl rfl a1 a2
  have s1 := fun s t w => stp s t w 1 b (qq b) rfl rfl b1 b2
  have s2 := fun s t w => stp s t w 2 c (qq c) rfl rfl c1 c2
  unfold b__law_kind
  refine cB_step ?_
  simp [lc, -Prod.exists, apd, flatD, cmpD, ordK, keeps, truD, binD, unD, retV, Post, outsE, hit, pass, biD, itD, tgIx, ioIx, outD, fzOk, fz, fzZ, modeAt, setTg, setSeq, asgV, putV, augD, mtTy, muts, mtMode, muD, mtD, sets, idxD, partD, isNop, wipeE, cL, boolX, intX, muX, parX, roX]
  refine cB_step ?_
  simp [-Prod.exists, apd, flatD, cmpD, ordK, keeps, truD, binD, unD, retV, Post, outsE, hit, pass, biD, itD, tgIx, ioIx, outD, fzOk, fz, fzZ, modeAt, setTg, setSeq, asgV, putV, augD, mtTy, muts, mtMode, muD, mtD, sets, idxD, partD, isNop, wipeE, cL, boolX, intX, muX, parX, roX]
  refine cB_step ?_
  simp [sa, sc, -Prod.exists, apd, flatD, cmpD, ordK, keeps, truD, binD, unD, retV, Post, outsE, hit, pass, biD, itD, tgIx, ioIx, outD, fzOk, fz, fzZ, modeAt, setTg, setSeq, asgV, putV, augD, mtTy, muts, mtMode, muD, mtD, sets, idxD, partD, isNop, wipeE, cL, boolX, intX, muX, parX, roX]
  refine cB_step ?_
  have er : rngD 0 3 = [.int 0, .int 1, .int 2] := by rfl
  have ok3 : okR 3 = true := by decide
  simp at s0 s1 s2
  simp [er, ok3, foL, s0, s1, s2, -Prod.exists, apd, flatD, cmpD, ordK, keeps, truD, binD, unD, retV, Post, outsE, hit, pass, biD, itD, tgIx, ioIx, outD, fzOk, fz, fzZ, modeAt, setTg, setSeq, asgV, putV, augD, mtTy, muts, mtMode, muD, mtD, sets, idxD, partD, isNop, wipeE, cL, boolX, intX, muX, parX, roX]
  refine cB_step ?_
  have e5 : (if 0 < c then (if 0 < b then (if 0 < a then 0 + (qq a * qq b * qq c).fdiv (qq a) else 0) + (qq a * qq b * qq c).fdiv (qq b) else (if 0 < a then 0 + (qq a * qq b * qq c).fdiv (qq a) else 0)) + (qq a * qq b * qq c).fdiv (qq c) else (if 0 < b then (if 0 < a then 0 + (qq a * qq b * qq c).fdiv (qq a) else 0) + (qq a * qq b * qq c).fdiv (qq b) else (if 0 < a then 0 + (qq a * qq b * qq c).fdiv (qq a) else 0))) = lt1 a b c := rfl
  have e6 : qq a * qq b * qq c = lw a b c := rfl
  simp only [Int.zero_add] at e5
  rw [e5, e6]
  unfold kindS
  by_cases h1 : lw a b c < lt1 a b c
  · simp [h1, cB, -Prod.exists, apd, flatD, cmpD, ordK, keeps, truD, binD, unD, retV, Post, outsE, hit, pass, biD, itD, tgIx, ioIx, outD, fzOk, fz, fzZ, modeAt, setTg, setSeq, asgV, putV, augD, mtTy, muts, mtMode, muD, mtD, sets, idxD, partD, isNop, wipeE, cL, boolX, intX, muX, parX, roX]
  · by_cases h2 : lt1 a b c = lw a b c <;> simp [h1, h2, cB, -Prod.exists, apd, flatD, cmpD, ordK, keeps, truD, binD, unD, retV, Post, outsE, hit, pass, biD, itD, tgIx, ioIx, outD, fzOk, fz, fzZ, modeAt, setTg, setSeq, asgV, putV, augD, mtTy, muts, mtMode, muD, mtD, sets, idxD, partD, isNop, wipeE, cL, boolX, intX, muX, parX, roX]
def OO : List Int := [0, 2, 3, 4, 5, 6, 7, 8, 9, 10, 11, 12]
theorem kinds_all : OO.all (fun a => OO.all fun b => OO.all fun c => decide (kt a b c < kp a b c) == decide (lt1 a b c < lw a b c) && (decide (kt a b c = kp a b c) == decide (lt1 a b c = lw a b c))) = true := by decide +kernel
theorem okO_mem {n : Int} (h : okO n = true) : n ∈ OO := by
  have := okO_b h
  simp [OO]
  omega
theorem kinds_eq (a b c : Int) (h : isO [a, b, c] = true) : kindS (kt a b c) (kp a b c) = kindS (lt1 a b c) (lw a b c) := by
  obtain ⟨ha, hb, hc⟩ := isO3 h
  have z := List.all_eq_true.mp (List.all_eq_true.mp (List.all_eq_true.mp kinds_all a (okO_mem ha)) b (okO_mem hb)) c (okO_mem hc)
  simp only [Bool.and_eq_true, beq_iff_eq, decide_eq_decide] at z
  obtain ⟨z1, z2⟩ := z
  unfold kindS
  by_cases h1 : kp a b c < kt a b c
  · have : lw a b c < lt1 a b c := by omega
    rw [if_pos h1, if_pos this]
  · have : ¬ lw a b c < lt1 a b c := by omega
    rw [if_neg h1, if_neg this]
    by_cases h2 : kt a b c = kp a b c
    · rw [if_pos h2, if_pos (z2.mp h2)]
    · rw [if_neg h2, if_neg (fun q => h2 (z2.mpr q))]
end Fd.k00
end
section
set_option maxRecDepth 100000
set_option maxHeartbeats 2000000
namespace Fd.k00
open PySem
def tb : List (Str × Bool) := [("NotOrders", true), ("NotWord", true)]
theorem iO1 : isD [("NotOrders", true), ("NotWord", false)] ⟨"NotOrders", none⟩ = .bool true := rfl
theorem iO2 : isD [("NotOrders", false), ("NotWord", false)] ⟨"NotOrders", none⟩ = .bool false := rfl
theorem iW1 : isD [("NotOrders", true), ("NotWord", false)] ⟨"NotWord", none⟩ = .bool false := rfl
theorem iW2 : isD [("NotOrders", false), ("NotWord", true)] ⟨"NotWord", none⟩ = .bool true := rfl
theorem iT1 : List.lookup ("NotOrders" : Str) [(("NotOrders" : Str), true), (("NotWord" : Str), true)] = some true := by decide
theorem iT2 : List.lookup ("NotWord" : Str) [(("NotOrders" : Str), true), (("NotWord" : Str), true)] = some true := by decide
theorem told0 (ns : List Int) (x y : Str) (hz : ns.length ≤ sizeLine) : F__law_told.f [.int 0, .tuple (ns.map .int), .str x, .str y] = some (.ok false (if isO ns = true then .none else .str "orders") []) := by
  have e1 := f_check_orders ns hz
  refine run_is rfl ?_
  unfold b__law_told
  refine cB_step ?_
  rw [cS]
  refine cB_step ?_
  simp [-Prod.exists, apd, flatD, cmpD, ordK, keeps, truD, binD, unD, retV, Post, outsE, hit, pass, biD, itD, tgIx, ioIx, outD, fzOk, fz, fzZ, modeAt, setTg, setSeq, asgV, putV, augD, mtTy, muts, mtMode, muD, mtD, sets, idxD, partD, isNop, wipeE, cL, boolX, intX, muX, parX, roX]
  refine cB_step ?_
  cases h : isO ns <;> simp only [h, if_true, Bool.false_eq_true, if_false] at e1 ⊢ <;> simp [e1, T__law_told, ms_check_orders, iT1, -Prod.exists, apd, flatD, cmpD, ordK, keeps, truD, binD, unD, retV, Post, outsE, hit, pass, biD, itD, tgIx, ioIx, outD, fzOk, fz, fzZ, modeAt, setTg, setSeq, asgV, putV, augD, mtTy, muts, mtMode, muD, mtD, sets, idxD, partD, isNop, wipeE, cL, boolX, intX, muX, parX, roX]
  all_goals (refine cB_step ?_; simp [iO1, iO2, -Prod.exists, apd, flatD, cmpD, ordK, keeps, truD, binD, unD, retV, Post, outsE, hit, pass, biD, itD, tgIx, ioIx, outD, fzOk, fz, fzZ, modeAt, setTg, setSeq, asgV, putV, augD, mtTy, muts, mtMode, muD, mtD, sets, idxD, partD, isNop, wipeE, cL, boolX, intX, muX, parX, roX])
  all_goals (refine cB_step ?_; simp [-Prod.exists, apd, flatD, cmpD, ordK, keeps, truD, binD, unD, retV, Post, outsE, hit, pass, biD, itD, tgIx, ioIx, outD, fzOk, fz, fzZ, modeAt, setTg, setSeq, asgV, putV, augD, mtTy, muts, mtMode, muD, mtD, sets, idxD, partD, isNop, wipeE, cL, boolX, intX, muX, parX, roX])
theorem told1 (a b c : Int) (x y : Str) (hx : x.length ≤ sizeLine) (hy : y.length ≤ sizeLine) (h : x.length + y.length ≤ sizeLine) (sx : PyData.strOk x = true) (sy : PyData.strOk y = true) (ho : isO [a, b, c] = true) : F__law_told.f [.int 1, .tuple [.int a, .int b, .int c], .str x, .str y] =
    some (.ok false (if (isL x && isL y && !decide (x = y)) = true then .int (if ob x y = 0 then a else if ob x y = 1 then b else c) else .str "word") []) := by
  have e1 := f_order_of a b c x y hx hy h sx sy
  simp only [ho, if_true] at e1
  refine run_is rfl ?_
  unfold b__law_told
  refine cB_step ?_
  rw [cS]
  refine cB_step ?_
  have hcon : ∀ (u v : D), (if (isL x && isL y && !decide (x = y)) = true then u else v) = bif (isL x && isL y && !decide (x = y)) then u else v := fun u v => by cases (isL x && isL y && !decide (x = y)) <;> rfl
  rw [hcon]
  generalize (isL x && isL y && !decide (x = y)) = z at e1 ⊢
  simp [-Prod.exists, apd, flatD, cmpD, ordK, keeps, truD, binD, unD, retV, Post, outsE, hit, pass, biD, itD, tgIx, ioIx, outD, fzOk, fz, fzZ, modeAt, setTg, setSeq, asgV, putV, augD, mtTy, muts, mtMode, muD, mtD, sets, idxD, partD, isNop, wipeE, cL, boolX, intX, muX, parX, roX]
  refine cB_step ?_
  simp [-Prod.exists, apd, flatD, cmpD, ordK, keeps, truD, binD, unD, retV, Post, outsE, hit, pass, biD, itD, tgIx, ioIx, outD, fzOk, fz, fzZ, modeAt, setTg, setSeq, asgV, putV, augD, mtTy, muts, mtMode, muD, mtD, sets, idxD, partD, isNop, wipeE, cL, boolX, intX, muX, parX, roX]
  refine cB_step ?_
  cases z <;> simp only [if_true, Bool.false_eq_true, if_false, cond_true, cond_false] at e1 ⊢ <;> simp [e1, T__law_told, ms_order_of, iT2, -Prod.exists, apd, flatD, cmpD, ordK, keeps, truD, binD, unD, retV, Post, outsE, hit, pass, biD, itD, tgIx, ioIx, outD, fzOk, fz, fzZ, modeAt, setTg, setSeq, asgV, putV, augD, mtTy, muts, mtMode, muD, mtD, sets, idxD, partD, isNop, wipeE, cL, boolX, intX, muX, parX, roX]
  all_goals (refine cB_step ?_; simp [iW1, iW2, -Prod.exists, apd, flatD, cmpD, ordK, keeps, truD, binD, unD, retV, Post, outsE, hit, pass, biD, itD, tgIx, ioIx, outD, fzOk, fz, fzZ, modeAt, setTg, setSeq, asgV, putV, augD, mtTy, muts, mtMode, muD, mtD, sets, idxD, partD, isNop, wipeE, cL, boolX, intX, muX, parX, roX])
  all_goals (refine cB_step ?_; simp [iW1, iW2, -Prod.exists, apd, flatD, cmpD, ordK, keeps, truD, binD, unD, retV, Post, outsE, hit, pass, biD, itD, tgIx, ioIx, outD, fzOk, fz, fzZ, modeAt, setTg, setSeq, asgV, putV, augD, mtTy, muts, mtMode, muD, mtD, sets, idxD, partD, isNop, wipeE, cL, boolX, intX, muX, parX, roX])
  all_goals (refine cB_step ?_; simp [-Prod.exists, apd, flatD, cmpD, ordK, keeps, truD, binD, unD, retV, Post, outsE, hit, pass, biD, itD, tgIx, ioIx, outD, fzOk, fz, fzZ, modeAt, setTg, setSeq, asgV, putV, augD, mtTy, muts, mtMode, muD, mtD, sets, idxD, partD, isNop, wipeE, cL, boolX, intX, muX, parX, roX])
theorem told1X (ns : List Int) (x y : Str) (hz : ns.length ≤ sizeLine) (ho : isO ns = false) : F__law_told.f [.int 1, .tuple (ns.map .int), .str x, .str y] = some (.ok false (.str "orders") []) := by
  have e1 := f_order_ofX ns hz ho x y
  refine run_is rfl ?_
  unfold b__law_told
  refine cB_step ?_
  rw [cS]
  refine cB_step ?_
  simp [-Prod.exists, apd, flatD, cmpD, ordK, keeps, truD, binD, unD, retV, Post, outsE, hit, pass, biD, itD, tgIx, ioIx, outD, fzOk, fz, fzZ, modeAt, setTg, setSeq, asgV, putV, augD, mtTy, muts, mtMode, muD, mtD, sets, idxD, partD, isNop, wipeE, cL, boolX, intX, muX, parX, roX]
  refine cB_step ?_
  simp [-Prod.exists, apd, flatD, cmpD, ordK, keeps, truD, binD, unD, retV, Post, outsE, hit, pass, biD, itD, tgIx, ioIx, outD, fzOk, fz, fzZ, modeAt, setTg, setSeq, asgV, putV, augD, mtTy, muts, mtMode, muD, mtD, sets, idxD, partD, isNop, wipeE, cL, boolX, intX, muX, parX, roX]
  refine cB_step ?_
  simp [e1, T__law_told, ms_order_of, iT1, -Prod.exists, apd, flatD, cmpD, ordK, keeps, truD, binD, unD, retV, Post, outsE, hit, pass, biD, itD, tgIx, ioIx, outD, fzOk, fz, fzZ, modeAt, setTg, setSeq, asgV, putV, augD, mtTy, muts, mtMode, muD, mtD, sets, idxD, partD, isNop, wipeE, cL, boolX, intX, muX, parX, roX]
  all_goals (refine cB_step ?_; simp [iO1, iO2, -Prod.exists, apd, flatD, cmpD, ordK, keeps, truD, binD, unD, retV, Post, outsE, hit, pass, biD, itD, tgIx, ioIx, outD, fzOk, fz, fzZ, modeAt, setTg, setSeq, asgV, putV, augD, mtTy, muts, mtMode, muD, mtD, sets, idxD, partD, isNop, wipeE, cL, boolX, intX, muX, parX, roX])
  all_goals (refine cB_step ?_; simp [-Prod.exists, apd, flatD, cmpD, ordK, keeps, truD, binD, unD, retV, Post, outsE, hit, pass, biD, itD, tgIx, ioIx, outD, fzOk, fz, fzZ, modeAt, setTg, setSeq, asgV, putV, augD, mtTy, muts, mtMode, muD, mtD, sets, idxD, partD, isNop, wipeE, cL, boolX, intX, muX, parX, roX])
theorem told2 (a b c : Int) (x y : Str) (ho : isO [a, b, c] = true) : F__law_told.f [.int 2, .tuple [.int a, .int b, .int c], .str x, .str y] = some (.ok false (.str (kindS (kt a b c) (kp a b c))) []) := by
  have e1 := f_kind_of a b c ho
  refine run_is rfl ?_
  unfold b__law_told
  refine cB_step ?_
  rw [cS]
  refine cB_step ?_
  simp [-Prod.exists, apd, flatD, cmpD, ordK, keeps, truD, binD, unD, retV, Post, outsE, hit, pass, biD, itD, tgIx, ioIx, outD, fzOk, fz, fzZ, modeAt, setTg, setSeq, asgV, putV, augD, mtTy, muts, mtMode, muD, mtD, sets, idxD, partD, isNop, wipeE, cL, boolX, intX, muX, parX, roX]
  refine cB_step ?_
  simp [-Prod.exists, apd, flatD, cmpD, ordK, keeps, truD, binD, unD, retV, Post, outsE, hit, pass, biD, itD, tgIx, ioIx, outD, fzOk, fz, fzZ, modeAt, setTg, setSeq, asgV, putV, augD, mtTy, muts, mtMode, muD, mtD, sets, idxD, partD, isNop, wipeE, cL, boolX, intX, muX, parX, roX]
  refine cB_step ?_
  simp [-Prod.exists, apd, flatD, cmpD, ordK, keeps, truD, binD, unD, retV, Post, outsE, hit, pass, biD, itD, tgIx, ioIx, outD, fzOk, fz, fzZ, modeAt, setTg, setSeq, asgV, putV, augD, mtTy, muts, mtMode, muD, mtD, sets, idxD, partD, isNop, wipeE, cL, boolX, intX, muX, parX, roX]
  refine cB_step ?_
  simp [e1, T__law_told, ms_kind_of, -Prod.exists, apd, flatD, cmpD, ordK, keeps, truD, binD, unD, retV, Post, outsE, hit, pass, biD, itD, tgIx, ioIx, outD, fzOk, fz, fzZ, modeAt, setTg, setSeq, asgV, putV, augD, mtTy, muts, mtMode, muD, mtD, sets, idxD, partD, isNop, wipeE, cL, boolX, intX, muX, parX, roX]
theorem f_kind_ofX (ns : List Int) (hz : ns.length ≤ sizeLine) (h1 : isO ns = false) : F_kind_of.f [.tuple (ns.map .int)] = some (.ex ⟨"NotOrders", none⟩ []) := by
  refine run_is rfl ?_
  have e1 := f_check_orders ns hz
  simp only [h1, Bool.false_eq_true, if_false] at e1
  unfold b_kind_of
  refine cB_step ?_
  simp [e1, T_kind_of, ms_check_orders, -Prod.exists, apd, flatD, cmpD, ordK, keeps, truD, binD, unD, retV, Post, outsE, hit, pass, biD, itD, tgIx, ioIx, outD, fzOk, fz, fzZ, modeAt, setTg, setSeq, asgV, putV, augD, mtTy, muts, mtMode, muD, mtD, sets, idxD, partD, isNop, wipeE, cL, boolX, intX, muX, parX, roX]
theorem told2X (ns : List Int) (x y : Str) (hz : ns.length ≤ sizeLine) (ho : isO ns = false) : F__law_told.f [.int 2, .tuple (ns.map .int), .str x, .str y] = some (.ok false (.str "orders") []) := by
  have e1 := f_kind_ofX ns hz ho
  refine run_is rfl ?_
  unfold b__law_told
  refine cB_step ?_
  rw [cS]
  refine cB_step ?_
  simp [-Prod.exists, apd, flatD, cmpD, ordK, keeps, truD, binD, unD, retV, Post, outsE, hit, pass, biD, itD, tgIx, ioIx, outD, fzOk, fz, fzZ, modeAt, setTg, setSeq, asgV, putV, augD, mtTy, muts, mtMode, muD, mtD, sets, idxD, partD, isNop, wipeE, cL, boolX, intX, muX, parX, roX]
  refine cB_step ?_
  simp [-Prod.exists, apd, flatD, cmpD, ordK, keeps, truD, binD, unD, retV, Post, outsE, hit, pass, biD, itD, tgIx, ioIx, outD, fzOk, fz, fzZ, modeAt, setTg, setSeq, asgV, putV, augD, mtTy, muts, mtMode, muD, mtD, sets, idxD, partD, isNop, wipeE, cL, boolX, intX, muX, parX, roX]
  refine cB_step ?_
  simp [-Prod.exists, apd, flatD, cmpD, ordK, keeps, truD, binD, unD, retV, Post, outsE, hit, pass, biD, itD, tgIx, ioIx, outD, fzOk, fz, fzZ, modeAt, setTg, setSeq, asgV, putV, augD, mtTy, muts, mtMode, muD, mtD, sets, idxD, partD, isNop, wipeE, cL, boolX, intX, muX, parX, roX]
  refine cB_step ?_
  simp [e1, T__law_told, ms_kind_of, iT1, -Prod.exists, apd, flatD, cmpD, ordK, keeps, truD, binD, unD, retV, Post, outsE, hit, pass, biD, itD, tgIx, ioIx, outD, fzOk, fz, fzZ, modeAt, setTg, setSeq, asgV, putV, augD, mtTy, muts, mtMode, muD, mtD, sets, idxD, partD, isNop, wipeE, cL, boolX, intX, muX, parX, roX]
  all_goals (refine cB_step ?_; simp [iO1, iO2, -Prod.exists, apd, flatD, cmpD, ordK, keeps, truD, binD, unD, retV, Post, outsE, hit, pass, biD, itD, tgIx, ioIx, outD, fzOk, fz, fzZ, modeAt, setTg, setSeq, asgV, putV, augD, mtTy, muts, mtMode, muD, mtD, sets, idxD, partD, isNop, wipeE, cL, boolX, intX, muX, parX, roX])
  all_goals (refine cB_step ?_; simp [-Prod.exists, apd, flatD, cmpD, ordK, keeps, truD, binD, unD, retV, Post, outsE, hit, pass, biD, itD, tgIx, ioIx, outD, fzOk, fz, fzZ, modeAt, setTg, setSeq, asgV, putV, augD, mtTy, muts, mtMode, muD, mtD, sets, idxD, partD, isNop, wipeE, cL, boolX, intX, muX, parX, roX])
theorem told3 (d : D) (x y : Str) (hx : x.length ≤ sizeLine) : F__law_told.f [.int 3, d, .str x, .str y] = some (.ok false (if isW x 60 = true then .none else .str "word") []) := by
  have e1 := f_check_word x hx
  refine run_is rfl ?_
  unfold b__law_told
  refine cB_step ?_
  rw [cS]
  refine cB_step ?_
  simp [-Prod.exists, apd, flatD, cmpD, ordK, keeps, truD, binD, unD, retV, Post, outsE, hit, pass, biD, itD, tgIx, ioIx, outD, fzOk, fz, fzZ, modeAt, setTg, setSeq, asgV, putV, augD, mtTy, muts, mtMode, muD, mtD, sets, idxD, partD, isNop, wipeE, cL, boolX, intX, muX, parX, roX]
  refine cB_step ?_
  simp [-Prod.exists, apd, flatD, cmpD, ordK, keeps, truD, binD, unD, retV, Post, outsE, hit, pass, biD, itD, tgIx, ioIx, outD, fzOk, fz, fzZ, modeAt, setTg, setSeq, asgV, putV, augD, mtTy, muts, mtMode, muD, mtD, sets, idxD, partD, isNop, wipeE, cL, boolX, intX, muX, parX, roX]
  refine cB_step ?_
  simp [-Prod.exists, apd, flatD, cmpD, ordK, keeps, truD, binD, unD, retV, Post, outsE, hit, pass, biD, itD, tgIx, ioIx, outD, fzOk, fz, fzZ, modeAt, setTg, setSeq, asgV, putV, augD, mtTy, muts, mtMode, muD, mtD, sets, idxD, partD, isNop, wipeE, cL, boolX, intX, muX, parX, roX]
  refine cB_step ?_
  cases h : isW x 60 <;> simp only [h, if_true, Bool.false_eq_true, if_false] at e1 ⊢ <;> simp [e1, T__law_told, ms_check_word, iT2, -Prod.exists, apd, flatD, cmpD, ordK, keeps, truD, binD, unD, retV, Post, outsE, hit, pass, biD, itD, tgIx, ioIx, outD, fzOk, fz, fzZ, modeAt, setTg, setSeq, asgV, putV, augD, mtTy, muts, mtMode, muD, mtD, sets, idxD, partD, isNop, wipeE, cL, boolX, intX, muX, parX, roX]
  all_goals (refine cB_step ?_; simp [iW1, iW2, -Prod.exists, apd, flatD, cmpD, ordK, keeps, truD, binD, unD, retV, Post, outsE, hit, pass, biD, itD, tgIx, ioIx, outD, fzOk, fz, fzZ, modeAt, setTg, setSeq, asgV, putV, augD, mtTy, muts, mtMode, muD, mtD, sets, idxD, partD, isNop, wipeE, cL, boolX, intX, muX, parX, roX])
  all_goals (refine cB_step ?_; simp [iW1, iW2, -Prod.exists, apd, flatD, cmpD, ordK, keeps, truD, binD, unD, retV, Post, outsE, hit, pass, biD, itD, tgIx, ioIx, outD, fzOk, fz, fzZ, modeAt, setTg, setSeq, asgV, putV, augD, mtTy, muts, mtMode, muD, mtD, sets, idxD, partD, isNop, wipeE, cL, boolX, intX, muX, parX, roX])
  all_goals (refine cB_step ?_; simp [-Prod.exists, apd, flatD, cmpD, ordK, keeps, truD, binD, unD, retV, Post, outsE, hit, pass, biD, itD, tgIx, ioIx, outD, fzOk, fz, fzZ, modeAt, setTg, setSeq, asgV, putV, augD, mtTy, muts, mtMode, muD, mtD, sets, idxD, partD, isNop, wipeE, cL, boolX, intX, muX, parX, roX])
end Fd.k00
end
section
set_option maxRecDepth 100000
set_option maxHeartbeats 2000000
namespace Fd.k00
open PySem
theorem sL : small 48271 = true := by decide
theorem sM : small 69621 = true := by decide
theorem d_l1 (s c r k o t : Slot) (ds : List Int) (sd : Int) (hz : ds.length < sizeLine) : ∃ x sd', evalSs T__law_draws l1__law_draws [s, .own false (.list (ds.map .int)), .ro (.int sd), c, r, k, o, t] = some (.nx [s, .own false (.list ((ds ++ [x]).map .int)), .ro (.int sd'), c, r, k, o, t]) := by
  have : ∃ v, evalSs T__law_draws l1__law_draws [s, .own false (.list (ds.map .int)), .ro (.int sd), c, r, k, o, t] = some v ∧ ∃ x sd', v = .nx [s, .own false (.list ((ds ++ [x]).map .int)), .ro (.int sd'), c, r, k, o, t] := by
    apply cB_ok
    unfold l1__law_draws
    refine cB_step ?_
    simp [sL, -Prod.exists, apd, flatD, cmpD, ordK, keeps, truD, binD, unD, retV, Post, outsE, hit, pass, biD, itD, tgIx, ioIx, outD, fzOk, fz, fzZ, modeAt, setTg, setSeq, asgV, putV, augD, mtTy, muts, mtMode, muD, mtD, sets, idxD, partD, isNop, wipeE, cL, boolX, intX, muX, parX, roX]
    refine cB_step ?_
    simp [hz, -Prod.exists, apd, flatD, cmpD, ordK, keeps, truD, binD, unD, retV, Post, outsE, hit, pass, biD, itD, tgIx, ioIx, outD, fzOk, fz, fzZ, modeAt, setTg, setSeq, asgV, putV, augD, mtTy, muts, mtMode, muD, mtD, sets, idxD, partD, isNop, wipeE, cL, boolX, intX, muX, parX, roX]
    refine cB_nil ?_
    exact ⟨_, _, rfl⟩
  obtain ⟨v, e, x, sd', rfl⟩ := this
  exact ⟨x, sd', e⟩
theorem d_l2 (s c sd k o t : Slot) (ds : List Int) (r : Int) (hz : ds.length < sizeLine) : ∃ v, evalSs T__law_draws l2__law_draws [s, .own false (.list (ds.map .int)), sd, c, .ro (.int r), k, o, t] = some v ∧
    (v = .bk [s, .own false (.list (ds.map .int)), sd, c, .ro (.int r), k, o, t] ∨ ∃ x r', v = .nx [s, .own false (.list ((ds ++ [x]).map .int)), sd, c, .ro (.int r'), k, o, t]) := by
  apply cB_ok
  unfold l2__law_draws
  refine cB_step ?_
  by_cases h : r = 0
  · simp [h, -Prod.exists, apd, flatD, cmpD, ordK, keeps, truD, binD, unD, retV, Post, outsE, hit, pass, biD, itD, tgIx, ioIx, outD, fzOk, fz, fzZ, modeAt, setTg, setSeq, asgV, putV, augD, mtTy, muts, mtMode, muD, mtD, sets, idxD, partD, isNop, wipeE, cL, boolX, intX, muX, parX, roX]
    refine cB_step ?_
    simp [-Prod.exists, apd, flatD, cmpD, ordK, keeps, truD, binD, unD, retV, Post, outsE, hit, pass, biD, itD, tgIx, ioIx, outD, fzOk, fz, fzZ, modeAt, setTg, setSeq, asgV, putV, augD, mtTy, muts, mtMode, muD, mtD, sets, idxD, partD, isNop, wipeE, cL, boolX, intX, muX, parX, roX]
  · simp [h, -Prod.exists, apd, flatD, cmpD, ordK, keeps, truD, binD, unD, retV, Post, outsE, hit, pass, biD, itD, tgIx, ioIx, outD, fzOk, fz, fzZ, modeAt, setTg, setSeq, asgV, putV, augD, mtTy, muts, mtMode, muD, mtD, sets, idxD, partD, isNop, wipeE, cL, boolX, intX, muX, parX, roX]
    refine cB_nil ?_
    refine cB_step ?_
    simp [hz, -Prod.exists, apd, flatD, cmpD, ordK, keeps, truD, binD, unD, retV, Post, outsE, hit, pass, biD, itD, tgIx, ioIx, outD, fzOk, fz, fzZ, modeAt, setTg, setSeq, asgV, putV, augD, mtTy, muts, mtMode, muD, mtD, sets, idxD, partD, isNop, wipeE, cL, boolX, intX, muX, parX, roX]
    refine cB_step ?_
    simp [-Prod.exists, apd, flatD, cmpD, ordK, keeps, truD, binD, unD, retV, Post, outsE, hit, pass, biD, itD, tgIx, ioIx, outD, fzOk, fz, fzZ, modeAt, setTg, setSeq, asgV, putV, augD, mtTy, muts, mtMode, muD, mtD, sets, idxD, partD, isNop, wipeE, cL, boolX, intX, muX, parX, roX]
    refine cB_nil ?_
    exact .inr ⟨_, _, rfl⟩
theorem d_l3 (s : Slot) (r k o t : Option D) (ds : List Int) (sd n : Int) (hz : ds.length + 100 < sizeLine) : ∃ v, evalSs T__law_draws l3__law_draws [s, .own false (.list (ds.map .int)), .ro (.int sd), .ro (.int n), sl r, sl k, sl o, sl t] = some v ∧
    ∃ (ds' : List Int) (sd' : Int) (r k o t : Option D), v = .nx [s, .own false (.list (ds'.map .int)), .ro (.int sd'), .ro (.int n), sl r, sl k, sl o, sl t] ∧ ds'.length ≤ ds.length + 60 := by
  have hq := PySem.sizeLine_eq
  apply cB_ok
  unfold l3__law_draws
  refine cB_step ?_
  simp [f_number, T__law_draws, ms__law_number, -Prod.exists, apd, flatD, cmpD, ordK, keeps, truD, binD, unD, retV, Post, outsE, hit, pass, biD, itD, tgIx, ioIx, outD, fzOk, fz, fzZ, modeAt, setTg, setSeq, asgV, putV, augD, mtTy, muts, mtMode, muD, mtD, sets, idxD, partD, isNop, wipeE, cL, boolX, intX, muX, parX, roX]
  refine cB_step ?_
  simp [sL, -Prod.exists, apd, flatD, cmpD, ordK, keeps, truD, binD, unD, retV, Post, outsE, hit, pass, biD, itD, tgIx, ioIx, outD, fzOk, fz, fzZ, modeAt, setTg, setSeq, asgV, putV, augD, mtTy, muts, mtMode, muD, mtD, sets, idxD, partD, isNop, wipeE, cL, boolX, intX, muX, parX, roX]
  refine cB_step ?_
  generalize (if n < 0 then -n else n) = m
  generalize Int.fmod (sd * 48271 + m) 2147483647 = sd2
  by_cases h : 1000000000000000000 ≤ m
  · have ok60 : okR 60 = true := by decide
    simp [h, -Prod.exists, apd, flatD, cmpD, ordK, keeps, truD, binD, unD, retV, Post, outsE, hit, pass, biD, itD, tgIx, ioIx, outD, fzOk, fz, fzZ, modeAt, setTg, setSeq, asgV, putV, augD, mtTy, muts, mtMode, muD, mtD, sets, idxD, partD, isNop, wipeE, cL, boolX, intX, muX, parX, roX]
    refine cB_step ?_
    simp [ok60, -Prod.exists, apd, flatD, cmpD, ordK, keeps, truD, binD, unD, retV, Post, outsE, hit, pass, biD, itD, tgIx, ioIx, outD, fzOk, fz, fzZ, modeAt, setTg, setSeq, asgV, putV, augD, mtTy, muts, mtMode, muD, mtD, sets, idxD, partD, isNop, wipeE, cL, boolX, intX, muX, parX, roX]
    refine foL_inv (fun i Γ => ∃ (ds' : List Int) (r' : Int) (k' : Option D), Γ = [s, .own false (.list (ds'.map .int)), .ro (.int sd2), .ro (.int n), .ro (.int r'), sl k', sl o, sl t] ∧ ds'.length ≤ ds.length + i) (i := 0) ⟨ds, m, k, rfl, by omega⟩ ?_ ?_
    · rintro j d Γ hd ⟨ds', r', k', rfl, hl⟩
      have hj : j < 60 := by
        have := (List.getElem?_eq_some_iff.mp hd).1
        simpa [rngD] using this
      refine ⟨[s, .own false (.list (ds'.map .int)), .ro (.int sd2), .ro (.int n), .ro (.int r'), .ro d, sl o, sl t], by simp [setTg], ?_⟩
      obtain ⟨v, e, hv⟩ := d_l2 s (.ro (.int n)) (.ro (.int sd2)) (.ro d) (sl o) (sl t) ds' r' (by omega)
      refine ⟨v, e, ?_⟩
      rcases hv with rfl | ⟨x, r2, rfl⟩
      · refine cB_nil ?_
        refine cB_nil ?_
        exact ⟨ds', ⟨sd2, some (.int r'), some d, o, t, rfl⟩, by omega⟩
      · exact ⟨ds' ++ [x], r2, some d, rfl, by simp; omega⟩
    · rintro Γ ⟨ds', r', k', rfl, hl⟩
      have : (rngD 0 60).length = 60 := by simp [rngD]
      refine cB_nil ?_
      refine cB_nil ?_
      exact ⟨ds', ⟨sd2, some (.int r'), k', o, t, rfl⟩, by omega⟩
  · simp [h, -Prod.exists, apd, flatD, cmpD, ordK, keeps, truD, binD, unD, retV, Post, outsE, hit, pass, biD, itD, tgIx, ioIx, outD, fzOk, fz, fzZ, modeAt, setTg, setSeq, asgV, putV, augD, mtTy, muts, mtMode, muD, mtD, sets, idxD, partD, isNop, wipeE, cL, boolX, intX, muX, parX, roX]
    refine cB_step ?_
    simp [sL, -Prod.exists, apd, flatD, cmpD, ordK, keeps, truD, binD, unD, retV, Post, outsE, hit, pass, biD, itD, tgIx, ioIx, outD, fzOk, fz, fzZ, modeAt, setTg, setSeq, asgV, putV, augD, mtTy, muts, mtMode, muD, mtD, sets, idxD, partD, isNop, wipeE, cL, boolX, intX, muX, parX, roX]
    refine cB_step ?_
    simp [sM, -Prod.exists, apd, flatD, cmpD, ordK, keeps, truD, binD, unD, retV, Post, outsE, hit, pass, biD, itD, tgIx, ioIx, outD, fzOk, fz, fzZ, modeAt, setTg, setSeq, asgV, putV, augD, mtTy, muts, mtMode, muD, mtD, sets, idxD, partD, isNop, wipeE, cL, boolX, intX, muX, parX, roX]
    refine cB_step ?_
    have h3 : ds.length + 3 ≤ sizeLine := by omega
    simp [h3, -Prod.exists, apd, flatD, cmpD, ordK, keeps, truD, binD, unD, retV, Post, outsE, hit, pass, biD, itD, tgIx, ioIx, outD, fzOk, fz, fzZ, modeAt, setTg, setSeq, asgV, putV, augD, mtTy, muts, mtMode, muD, mtD, sets, idxD, partD, isNop, wipeE, cL, boolX, intX, muX, parX, roX]
    refine cB_nil ?_
    refine cB_nil ?_
    refine ⟨ds ++ [m.fmod 1000, ((m * 48271 + 11).fmod 2147483647).fmod 1000, (((m * 48271 + 11).fmod 2147483647 * 69621 + m).fmod 2147483629).fmod 1000], ⟨sd2, some (.int m), k, some (.int ((m * 48271 + 11).fmod 2147483647)), some (.int (((m * 48271 + 11).fmod 2147483647 * 69621 + m).fmod 2147483629)), ?_⟩, ?_⟩
    · simp [sl]
    · simp
theorem f_draws (ns : List Int) (h : ns.length ≤ 63) : ∃ ds : List Int, F__law_draws.f [.list (ns.map .int)] = some (.ok true (.list (ds.map .int)) []) := by
  have hq := PySem.sizeLine_eq
  have : ∃ r, F__law_draws.f [.list (ns.map .int)] = some r ∧ ∃ ds : List Int, r = .ok true (.list (ds.map .int)) [] := by
    refine run_of (Γ0 := [.scr ns]) (by simp [slotsOf, ints_map]) ?_
    unfold b__law_draws
    refine cB_step ?_
    simp [-Prod.exists, apd, flatD, cmpD, ordK, keeps, truD, binD, unD, retV, Post, outsE, hit, pass, biD, itD, tgIx, ioIx, outD, fzOk, fz, fzZ, modeAt, setTg, setSeq, asgV, putV, augD, mtTy, muts, mtMode, muD, mtD, sets, idxD, partD, isNop, wipeE, cL, boolX, intX, muX, parX, roX]
    refine cB_step ?_
    simp [-Prod.exists, apd, flatD, cmpD, ordK, keeps, truD, binD, unD, retV, Post, outsE, hit, pass, biD, itD, tgIx, ioIx, outD, fzOk, fz, fzZ, modeAt, setTg, setSeq, asgV, putV, augD, mtTy, muts, mtMode, muD, mtD, sets, idxD, partD, isNop, wipeE, cL, boolX, intX, muX, parX, roX]
    refine cB_step ?_
    simp [-Prod.exists, apd, flatD, cmpD, ordK, keeps, truD, binD, unD, retV, Post, outsE, hit, pass, biD, itD, tgIx, ioIx, outD, fzOk, fz, fzZ, modeAt, setTg, setSeq, asgV, putV, augD, mtTy, muts, mtMode, muD, mtD, sets, idxD, partD, isNop, wipeE, cL, boolX, intX, muX, parX, roX]
    refine foL_inv (fun i Γ => ∃ (ds : List Int) (sd : Int) (c r k o t : Option D), Γ = [.scr ns, .own false (.list (ds.map .int)), .ro (.int sd), sl c, sl r, sl k, sl o, sl t] ∧ ds.length ≤ 60 * i) (i := 0) ⟨[], 7, none, none, none, none, none, rfl, by simp⟩ ?_ ?_
    · rintro j d Γ hd ⟨ds, sd, c, r, k, o, t, rfl, hl⟩
      have hj := (List.getElem?_eq_some_iff.mp hd).1
      simp at hj
      have hd' : ∃ n, d = .int n := by
        have := List.mem_of_getElem? hd
        obtain ⟨n, _, e⟩ := List.mem_map.mp this
        exact ⟨n, e.symm⟩
      obtain ⟨n, rfl⟩ := hd'
      refine ⟨[.scr ns, .own false (.list (ds.map .int)), .ro (.int sd), .ro (.int n), sl r, sl k, sl o, sl t], by simp [setTg], ?_⟩
      obtain ⟨v, e, ds', sd', r', k', o', t', rfl, hl'⟩ := d_l3 (.scr ns) r k o t ds sd n (by omega)
      exact ⟨_, e, ds', sd', some (.int n), r', k', o', t', rfl, by omega⟩
    · rintro Γ ⟨ds, sd, c, r, k, o, t, rfl, hl⟩
      simp at hl
      refine cB_step ?_
      have ok200 : okR 200 = true := by decide
      simp [ok200, -Prod.exists, apd, flatD, cmpD, ordK, keeps, truD, binD, unD, retV, Post, outsE, hit, pass, biD, itD, tgIx, ioIx, outD, fzOk, fz, fzZ, modeAt, setTg, setSeq, asgV, putV, augD, mtTy, muts, mtMode, muD, mtD, sets, idxD, partD, isNop, wipeE, cL, boolX, intX, muX, parX, roX]
      refine foL_inv (fun i Γ => ∃ (ds : List Int) (sd : Int) (c r k o t : Option D), Γ = [.scr ns, .own false (.list (ds.map .int)), .ro (.int sd), sl c, sl r, sl k, sl o, sl t] ∧ ds.length ≤ 60 * 63 + i) (i := 0) ⟨ds, sd, c, r, k, o, t, rfl, by omega⟩ ?_ ?_
      · rintro j d Γ hd ⟨ds, sd, c, r, k, o, t, rfl, hl⟩
        have hj : j < 200 := by
          have := (List.getElem?_eq_some_iff.mp hd).1
          simpa [rngD] using this
        refine ⟨[.scr ns, .own false (.list (ds.map .int)), .ro (.int sd), sl c, sl r, .ro d, sl o, sl t], by simp [setTg], ?_⟩
        obtain ⟨x, sd', e⟩ := d_l1 (.scr ns) (sl c) (sl r) (.ro d) (sl o) (sl t) ds sd (by omega)
        exact ⟨_, e, ds ++ [x], sd', c, r, some d, o, t, rfl, by simp; omega⟩
      · rintro Γ ⟨ds, sd, c, r, k, o, t, rfl, hl⟩
        refine cB_step ?_
        simp [-Prod.exists, apd, flatD, cmpD, ordK, keeps, truD, binD, unD, retV, Post, outsE, hit, pass, biD, itD, tgIx, ioIx, outD, fzOk, fz, fzZ, modeAt, setTg, setSeq, asgV, putV, augD, mtTy, muts, mtMode, muD, mtD, sets, idxD, partD, isNop, wipeE, cL, boolX, intX, muX, parX, roX]
        refine cB_step ?_
        simp [-Prod.exists, apd, flatD, cmpD, ordK, keeps, truD, binD, unD, retV, Post, outsE, hit, pass, biD, itD, tgIx, ioIx, outD, fzOk, fz, fzZ, modeAt, setTg, setSeq, asgV, putV, augD, mtTy, muts, mtMode, muD, mtD, sets, idxD, partD, isNop, wipeE, cL, boolX, intX, muX, parX, roX]
        exact ⟨ds.reverse, by simp⟩
  obtain ⟨r, e, ds, rfl⟩ := this
  exact ⟨ds, e⟩
end Fd.k00
end
section
set_option maxRecDepth 100000
set_option maxHeartbeats 2000000
namespace Fd.k00
open PySem
def pk (ds : List Int) (m : Int) : Int := (top ds).fmod m
theorem pk_bd (ds : List Int) {m : Int} (h : 0 < m) : 0 ≤ pk ds m ∧ pk ds m < m := by
  unfold pk
  rw [Int.fmod_eq_emod_of_nonneg _ (by omega)]
  exact ⟨Int.emod_nonneg _ (by omega), Int.emod_lt_of_pos _ h⟩
theorem f_pk (ds : List Int) (m : Int) (h : m ≠ 0) : F__law_pick.f [.list (ds.map .int), .int m] = some (.ok false (.int (pk ds m)) [.list (ds.dropLast.map .int)]) := f_pick ds m h
theorem map_dropLast' (ds : List Int) : (ds.map PyData.int).dropLast = ds.dropLast.map .int := by simp
/-- a draw among some -/
theorem at_of (xs : List D) (r : Int) (h0 : 0 ≤ r) (h1 : r < xs.length) : ∃ d, L2.atI xs r = some d ∧ d ∈ xs := by
  have hn : r.toNat < xs.length := by omega
  refine ⟨xs[r.toNat], ?_, List.getElem_mem hn⟩
  unfold L2.atI L2.ixN
  rw [if_pos h0, if_pos h1]
  exact List.getElem?_eq_getElem hn
theorem e6 (s c k x4 x5 x6 x7 x8 x9 x10 x11 x12 x13 : Slot) (ds : List Int) (i : D) (hs : nOk k = true) (hk : sOk k = true) : ∃ v, lcF T_law e6_law [3] (.nm 3) (.con (.bool true)) [s, .own false (.list (ds.map .int)), c, k, x4, x5, x6, x7, x8, x9, x10, x11, x12, x13] i = some ([.int v], [(1, .own false (.list (ds.dropLast.map .int)))]) ∧ -1 ≤ v ∧ v ≤ 13 := by
  obtain ⟨b0, b1⟩ := pk_bd ds (m := 15) (by decide)
  have : ∃ o δ, lcF T_law e6_law [3] (.nm 3) (.con (.bool true)) [s, .own false (.list (ds.map .int)), c, k, x4, x5, x6, x7, x8, x9, x10, x11, x12, x13] i = some (o, δ) ∧ o = [.int (pk ds 15 - 1)] ∧ δ = [(1, .own false (.list (ds.dropLast.map .int)))] := by
    apply lcF_of
    simp [e6_law, hs, T_law, ms__law_pick, f_pk, -Prod.exists, apd, flatD, cmpD, ordK, keeps, truD, binD, unD, retV, Post, outsE, hit, pass, biD, itD, tgIx, ioIx, outD, fzOk, fz, fzZ, modeAt, setTg, setSeq, asgV, putV, augD, mtTy, muts, mtMode, muD, mtD, sets, idxD, partD, isNop, wipeE, cL, boolX, intX, muX, parX, roX]
  obtain ⟨o, δ, e, rfl, rfl⟩ := this
  exact ⟨_, e, by omega, by omega⟩
theorem e5 (s c k x4 x5 x6 x7 x8 x9 x10 x11 x12 x13 : Slot) (ds : List Int) (i : D) (hs : nOk k = true) (hk : sOk k = true) : ∃ v, lcF T_law e5_law [3] (.nm 3) (.con (.bool true)) [s, .own false (.list (ds.map .int)), c, k, x4, x5, x6, x7, x8, x9, x10, x11, x12, x13] i = some ([.int v], [(1, .own false (.list (ds.dropLast.map .int)))]) ∧ -1 ≤ v ∧ v ≤ 13 := by
  obtain ⟨b0, b1⟩ := pk_bd ds (m := 6) (by decide)
  obtain ⟨d, hd, hm⟩ := at_of [.int 0, .int 2, .int 3, .int 4, .int 6, .int 12] (pk ds 6) b0 (by simpa using b1)
  obtain ⟨v, rfl, h1, h2⟩ : ∃ v : Int, d = .int v ∧ -1 ≤ v ∧ v ≤ 13 := by
    simp at hm
    rcases hm with rfl | rfl | rfl | rfl | rfl | rfl <;> exact ⟨_, rfl, by decide, by decide⟩
  have : ∃ o δ, lcF T_law e5_law [3] (.nm 3) (.con (.bool true)) [s, .own false (.list (ds.map .int)), c, k, x4, x5, x6, x7, x8, x9, x10, x11, x12, x13] i = some (o, δ) ∧ o = [.int v] ∧ δ = [(1, .own false (.list (ds.dropLast.map .int)))] := by
    apply lcF_of
    simp [e5_law, hs, T_law, ms__law_pick, f_pk, hd, -Prod.exists, apd, flatD, cmpD, ordK, keeps, truD, binD, unD, retV, Post, outsE, hit, pass, biD, itD, tgIx, ioIx, outD, fzOk, fz, fzZ, modeAt, setTg, setSeq, asgV, putV, augD, mtTy, muts, mtMode, muD, mtD, sets, idxD, partD, isNop, wipeE, cL, boolX, intX, muX, parX, roX]
  obtain ⟨o, δ, e, rfl, rfl⟩ := this
  exact ⟨_, e, h1, h2⟩
theorem lc_draw {elt : E} (G : List Int → Ev) (step : ∀ ds i, ∃ v, lcF T_law elt [3] (.nm 3) (.con (.bool true)) (G ds) i = some ([.int v], [(1, .own false (.list (ds.dropLast.map .int)))]) ∧ -1 ≤ v ∧ v ≤ 13) (mv : ∀ ds, apd (G ds) [(1, .own false (.list (ds.dropLast.map .int)))] = G ds.dropLast) :
    ∀ (xs : List D) (ds : List Int), ∃ (os : List Int) (δ : Dl) (ds' : List Int), lcL (lcF T_law elt [3] (.nm 3) (.con (.bool true))) .ro xs (G ds) = some (os.map PyData.int, δ) ∧ os.length = xs.length ∧ (∀ v ∈ os, -1 ≤ v ∧ v ≤ 13) ∧ apd (G ds) δ = G ds'
  | [], ds => ⟨[], [], ds, rfl, rfl, by simp, rfl⟩
  | x :: xs, ds => by
    obtain ⟨v, e, h1, h2⟩ := step ds x
    obtain ⟨os, δ, ds', e2, hl, hb, ha⟩ := lc_draw G step mv xs ds.dropLast
    refine ⟨v :: os, (1, .own false (.list (ds.dropLast.map .int))) :: δ, ds', ?_, by simp [hl], ?_, ?_⟩
    · unfold lcL
      rw [e]
      have hk : keeps [(1, Slot.own false (.list (ds.dropLast.map .int)))] .ro = true := rfl
      simp only [if_pos hk, mv, e2]
      rfl
    · intro w hw
      rcases List.mem_cons.mp hw with rfl | hw
      · exact ⟨h1, h2⟩
      · exact hb w hw
    · show apd (apd (G ds) [(1, .own false (.list (ds.dropLast.map .int)))]) δ = _
      rw [mv]
      exact ha
/-- the context of the law -/
def Gm (ns : List Int) (c x3 x4 x5 x6 x7 x8 x9 x10 x11 x12 x13 : Slot) (ds : List Int) : Ev := [.scr ns, .own false (.list (ds.map .int)), c, x3, x4, x5, x6, x7, x8, x9, x10, x11, x12, x13]
/-- up to the orders -/
theorem law_a (ns : List Int) (h : ns.length ≤ 63) (Q : O → Prop) (r : Ss) (k3 k4 : S)
    (go : ∀ (ds : List Int) (c : Int) (os : List Int), (c = 3 ∨ c = 2 ∨ c = 4) → (os.length : Int) = c → (∀ v ∈ os, -1 ≤ v ∧ v ≤ 13) → cB T_law r (Gm ns (.ro (.int c)) .no (.ro (.tuple (os.map .int))) .no .no .no .no .no .no .no .no .no ds) Q) :
    cB T_law (.cons (.asg (.nm 1) (.call 9 (.cons (.var 0) .nil))) (.cons (.asg (.nm 2) (.idx (.lst (.cons (.con (.int 3)) (.cons (.con (.int 3)) (.cons (.con (.int 3)) (.cons (.con (.int 3)) (.cons (.con (.int 3)) (.cons (.con (.int 2)) (.cons (.con (.int 4)) (.cons (.con (.int 3)) .nil))))))))) (.call 11 (.cons (.var 1) (.cons (.con (.int 8)) .nil))))) (.cons (.asg (.nm 4) (.bi .tuple (.cons (.lc e6_law [3] (.nm 3) (.rng1 (.var 2)) (.con (.bool true))) .nil))) r))) [.scr ns, .no, .no, .no, .no, .no, .no, .no, .no, .no, .no, .no, .no, .no] Q := by
  have hq := PySem.sizeLine_eq
  obtain ⟨ds, ed⟩ := f_draws ns h
  refine cB_step ?_
  simp [ed, T_law, ms__law_draws, -Prod.exists, apd, flatD, cmpD, ordK, keeps, truD, binD, unD, retV, Post, outsE, hit, pass, biD, itD, tgIx, ioIx, outD, fzOk, fz, fzZ, modeAt, setTg, setSeq, asgV, putV, augD, mtTy, muts, mtMode, muD, mtD, sets, idxD, partD, isNop, wipeE, cL, boolX, intX, muX, parX, roX]
  refine cB_step ?_
  obtain ⟨b0, b1⟩ := pk_bd ds (m := 8) (by decide)
  obtain ⟨d, hd, hm⟩ := at_of [.int 3, .int 3, .int 3, .int 3, .int 3, .int 2, .int 4, .int 3] (pk ds 8) b0 (by simpa using b1)
  obtain ⟨c, rfl, hc⟩ : ∃ c : Int, d = .int c ∧ (c = 3 ∨ c = 2 ∨ c = 4) := by
    simp at hm
    rcases hm with rfl | rfl | rfl | rfl <;> exact ⟨_, rfl, by decide⟩
  simp [f_pk, T_law, ms__law_pick, hd, -Prod.exists, apd, flatD, cmpD, ordK, keeps, truD, binD, unD, retV, Post, outsE, hit, pass, biD, itD, tgIx, ioIx, outD, fzOk, fz, fzZ, modeAt, setTg, setSeq, asgV, putV, augD, mtTy, muts, mtMode, muD, mtD, sets, idxD, partD, isNop, wipeE, cL, boolX, intX, muX, parX, roX]
  refine cB_step ?_
  have okc : okR c = true := by rcases hc with rfl | rfl | rfl <;> decide
  obtain ⟨os, δ, ds', e, hl, hb, ha⟩ := lc_draw (elt := e6_law) (Gm ns (.ro (.int c)) .no .no .no .no .no .no .no .no .no .no .no) (fun ds i => e6 _ _ _ _ _ _ _ _ _ _ _ _ _ ds i rfl rfl) (fun ds => rfl) (rngD 0 c) ds.dropLast
  unfold Gm at e ha
  simp only [List.map_dropLast] at e ha
  have hl2 : (rngD 0 c).length ≤ sizeLine := by rcases hc with rfl | rfl | rfl <;> simp [rngD]
  simp [okc, e, ha, hl2, -Prod.exists, apd, flatD, cmpD, ordK, keeps, truD, binD, unD, retV, Post, outsE, hit, pass, biD, itD, tgIx, ioIx, outD, fzOk, fz, fzZ, modeAt, setTg, setSeq, asgV, putV, augD, mtTy, muts, mtMode, muD, mtD, sets, idxD, partD, isNop, wipeE, cL, boolX, intX, muX, parX, roX]
  refine go ds' c os hc ?_ hb
  rw [hl]
  rcases hc with rfl | rfl | rfl <;> simp [rngD]
end Fd.k00
end
section
set_option maxRecDepth 100000
set_option maxHeartbeats 2000000
namespace Fd.k00
open PySem
theorem law_b (ns : List Int) (Q : O → Prop) (r : Ss) (ds : List Int) (c : Int) (os : List Int) (hc : c = 3 ∨ c = 2 ∨ c = 4) (hl : (os.length : Int) = c) (hb : ∀ v ∈ os, -1 ≤ v ∧ v ≤ 13)
    (go : ∀ (ds : List Int) (os : List Int), (os.length : Int) = c → (∀ v ∈ os, -1 ≤ v ∧ v ≤ 13) → cB T_law r (Gm ns (.ro (.int c)) .no (.ro (.tuple (os.map .int))) .no .no .no .no .no .no .no .no .no ds) Q) :
    cB T_law (.cons (.ite (.cmp .Eq (.call 11 (.cons (.var 1) (.cons (.con (.int 2)) .nil))) (.con (.int 0))) (.cons (.asg (.nm 4) (.bi .tuple (.cons (.lc e5_law [3] (.nm 3) (.rng1 (.var 2)) (.con (.bool true))) .nil))) .nil) .nil) r) (Gm ns (.ro (.int c)) .no (.ro (.tuple (os.map .int))) .no .no .no .no .no .no .no .no .no ds) Q := by
  refine cB_step ?_
  by_cases h : pk ds 2 = 0
  · simp [f_pk, T_law, ms__law_pick, Gm, h, -Prod.exists, apd, flatD, cmpD, ordK, keeps, truD, binD, unD, retV, Post, outsE, hit, pass, biD, itD, tgIx, ioIx, outD, fzOk, fz, fzZ, modeAt, setTg, setSeq, asgV, putV, augD, mtTy, muts, mtMode, muD, mtD, sets, idxD, partD, isNop, wipeE, cL, boolX, intX, muX, parX, roX]
    refine cB_step ?_
    have okc : okR c = true := by rcases hc with rfl | rfl | rfl <;> decide
    obtain ⟨os2, δ, ds', e, hl3, hb2, ha⟩ := lc_draw (elt := e5_law) (Gm ns (.ro (.int c)) .no (.ro (.tuple (os.map .int))) .no .no .no .no .no .no .no .no .no) (fun ds i => e5 _ _ _ _ _ _ _ _ _ _ _ _ _ ds i rfl rfl) (fun ds => rfl) (rngD 0 c) ds.dropLast
    unfold Gm at e ha
    simp only [List.map_dropLast] at e ha
    have hl2 : (rngD 0 c).length ≤ sizeLine := by rcases hc with rfl | rfl | rfl <;> simp [rngD]
    simp [okc, e, ha, hl2, -Prod.exists, apd, flatD, cmpD, ordK, keeps, truD, binD, unD, retV, Post, outsE, hit, pass, biD, itD, tgIx, ioIx, outD, fzOk, fz, fzZ, modeAt, setTg, setSeq, asgV, putV, augD, mtTy, muts, mtMode, muD, mtD, sets, idxD, partD, isNop, wipeE, cL, boolX, intX, muX, parX, roX]
    refine cB_nil ?_
    refine go ds' os2 ?_ hb2
    rw [hl3]
    rcases hc with rfl | rfl | rfl <;> simp [rngD]
  · simp [f_pk, T_law, ms__law_pick, Gm, h, -Prod.exists, apd, flatD, cmpD, ordK, keeps, truD, binD, unD, retV, Post, outsE, hit, pass, biD, itD, tgIx, ioIx, outD, fzOk, fz, fzZ, modeAt, setTg, setSeq, asgV, putV, augD, mtTy, muts, mtMode, muD, mtD, sets, idxD, partD, isNop, wipeE, cL, boolX, intX, muX, parX, roX]
    refine cB_nil ?_
    have := go ds.dropLast os hl hb
    unfold Gm at this
    simp only [List.map_dropLast] at this
    exact this
def go_ (c : Int) (os : List Int) : Bool := decide (c = 3) && os.all okO
theorem law_c (ns : List Int) (Q : O → Prop) (r : Ss) (ds : List Int) (c : Int) (os : List Int) (hz : os.length ≤ 4)
    (go : ∀ (x6 : Slot), nOk x6 = true → sOk x6 = true → cB T_law r (Gm ns (.ro (.int c)) .no (.ro (.tuple (os.map .int))) (.ro (.bool (go_ c os))) x6 .no .no .no .no .no .no .no ds) Q) :
    cB T_law (.cons (.asg (.nm 5) (.cmp .Eq (.var 2) (.con (.int 3)))) (.cons (.for_ (.nm 6) (.var 4) l4_law) r)) (Gm ns (.ro (.int c)) .no (.ro (.tuple (os.map .int))) .no .no .no .no .no .no .no .no .no ds) Q := by
  refine cB_step ?_
  simp [Gm, -Prod.exists, apd, flatD, cmpD, ordK, keeps, truD, binD, unD, retV, Post, outsE, hit, pass, biD, itD, tgIx, ioIx, outD, fzOk, fz, fzZ, modeAt, setTg, setSeq, asgV, putV, augD, mtTy, muts, mtMode, muD, mtD, sets, idxD, partD, isNop, wipeE, cL, boolX, intX, muX, parX, roX]
  refine cB_step ?_
  simp [-Prod.exists, apd, flatD, cmpD, ordK, keeps, truD, binD, unD, retV, Post, outsE, hit, pass, biD, itD, tgIx, ioIx, outD, fzOk, fz, fzZ, modeAt, setTg, setSeq, asgV, putV, augD, mtTy, muts, mtMode, muD, mtD, sets, idxD, partD, isNop, wipeE, cL, boolX, intX, muX, parX, roX]
  refine foL_inv (fun i Γ => ∃ x : Option D, Γ = Gm ns (.ro (.int c)) .no (.ro (.tuple (os.map .int))) (.ro (.bool (decide (c = 3) && (os.take i).all okO))) (sl x) .no .no .no .no .no .no .no ds) (i := 0) ⟨none, by simp [Gm, sl]⟩ ?_ ?_
  · rintro j d Γ hd ⟨x, rfl⟩
    obtain ⟨n, hn, rfl⟩ : ∃ n, os[j]? = some n ∧ d = .int n := by
      rw [List.getElem?_map, Option.map_eq_some_iff] at hd
      obtain ⟨n, h1, h2⟩ := hd
      exact ⟨n, h1, h2.symm⟩
    refine ⟨Gm ns (.ro (.int c)) .no (.ro (.tuple (os.map .int))) (.ro (.bool (decide (c = 3) && (os.take (0 + j)).all okO))) (.ro (.int n)) .no .no .no .no .no .no .no ds, by simp [setTg, Gm], ?_⟩
    refine ⟨_, eq_of (v := .nx (Gm ns (.ro (.int c)) .no (.ro (.tuple (os.map .int))) (.ro (.bool (decide (c = 3) && (os.take (0 + j)).all okO && okO n))) (.ro (.int n)) .no .no .no .no .no .no .no ds)) ?_, ?_⟩
    · unfold l4_law
      refine cB_step ?_
      generalize (decide (c = 3) && (os.take (0 + j)).all okO) = z
      cases z
      · simp [Gm, -Prod.exists, apd, flatD, cmpD, ordK, keeps, truD, binD, unD, retV, Post, outsE, hit, pass, biD, itD, tgIx, ioIx, outD, fzOk, fz, fzZ, modeAt, setTg, setSeq, asgV, putV, augD, mtTy, muts, mtMode, muD, mtD, sets, idxD, partD, isNop, wipeE, cL, boolX, intX, muX, parX, roX]
        refine cB_nil rfl
      · by_cases h1 : n = 0
        · simp [Gm, h1, okO, -Prod.exists, apd, flatD, cmpD, ordK, keeps, truD, binD, unD, retV, Post, outsE, hit, pass, biD, itD, tgIx, ioIx, outD, fzOk, fz, fzZ, modeAt, setTg, setSeq, asgV, putV, augD, mtTy, muts, mtMode, muD, mtD, sets, idxD, partD, isNop, wipeE, cL, boolX, intX, muX, parX, roX]
          refine cB_nil rfl
        · by_cases h2 : 2 ≤ n
          · simp [Gm, h1, h2, okO, -Prod.exists, apd, flatD, cmpD, ordK, keeps, truD, binD, unD, retV, Post, outsE, hit, pass, biD, itD, tgIx, ioIx, outD, fzOk, fz, fzZ, modeAt, setTg, setSeq, asgV, putV, augD, mtTy, muts, mtMode, muD, mtD, sets, idxD, partD, isNop, wipeE, cL, boolX, intX, muX, parX, roX]
            refine cB_nil rfl
          · simp [Gm, h1, h2, okO, -Prod.exists, apd, flatD, cmpD, ordK, keeps, truD, binD, unD, retV, Post, outsE, hit, pass, biD, itD, tgIx, ioIx, outD, fzOk, fz, fzZ, modeAt, setTg, setSeq, asgV, putV, augD, mtTy, muts, mtMode, muD, mtD, sets, idxD, partD, isNop, wipeE, cL, boolX, intX, muX, parX, roX]
            refine cB_nil rfl
    · refine ⟨some (.int n), ?_⟩
      have e : (os.take (0 + j + 1)).all okO = ((os.take (0 + j)).all okO && okO n) := by
        rw [Nat.zero_add, List.take_add_one, hn, List.all_append]
        simp
      rw [e, Bool.and_assoc]
      rfl
  · rintro Γ ⟨x, rfl⟩
    have e : os.take (0 + (os.map PyData.int).length) = os := by simp
    rw [e]
    exact go (sl x) (by simp) (by simp)
theorem go_is (c : Int) (os : List Int) (hl : (os.length : Int) = c) : go_ c os = isO os := by
  unfold go_ isO
  have : decide (c = 3) = decide (os.length = 3) := by
    by_cases h : os.length = 3
    · have : c = 3 := by omega
      simp [h, this]
    · have : ¬ c = 3 := by omega
      simp [h, this]
  rw [this]
theorem law_d (ns : List Int) (Q : O → Prop) (r : Ss) (ds : List Int) (c : Int) (os : List Int) (x6 : Slot) (hl : (os.length : Int) = c) (hz : os.length ≤ sizeLine)
    (go : cB T_law r (Gm ns (.ro (.int c)) .no (.ro (.tuple (os.map .int))) (.ro (.bool (isO os))) x6 .no .no .no .no .no .no .no ds) Q) :
    cB T_law (.cons (.ite (.tor (.not_ (.bi .isbool (.cons (.call 0 (.cons (.var 4) .nil)) .nil))) (.cmp .NotEq (.call 0 (.cons (.var 4) .nil)) (.var 5))) (.cons (.ret (.con (.bool false))) .nil) .nil) r) (Gm ns (.ro (.int c)) .no (.ro (.tuple (os.map .int))) (.ro (.bool (go_ c os))) x6 .no .no .no .no .no .no .no ds) Q := by
  rw [go_is c os hl]
  refine cB_step ?_
  have eb : ∀ b : Bool, PyData.eqv (.bool b) (.bool b) = true := fun b => by cases b <;> rfl
  simp [Gm, f_is_orders os hz, T_law, ms_is_orders, eb, -Prod.exists, apd, flatD, cmpD, ordK, keeps, truD, binD, unD, retV, Post, outsE, hit, pass, biD, itD, tgIx, ioIx, outD, fzOk, fz, fzZ, modeAt, setTg, setSeq, asgV, putV, augD, mtTy, muts, mtMode, muD, mtD, sets, idxD, partD, isNop, wipeE, cL, boolX, intX, muX, parX, roX]
  refine cB_nil ?_
  exact go
end Fd.k00
end
section
set_option maxRecDepth 100000
set_option maxHeartbeats 2000000
namespace Fd.k00
open PySem
def L1 : List Str := ["0", "1", "2", "0", "1", "2", "", "3", "01"]
def L2' : List Str := ["0", "1", "2", "0", "1", "2", "", "x", "22"]
def codes : List D := [.str "01", .str "10", .str "12", .str "21", .str "02", .str "20"]
def tab : List (D × D) := [(.str "01", .int 0), (.str "10", .int 0), (.str "12", .int 1), (.str "21", .int 1), (.str "02", .int 2), (.str "20", .int 2)]
def cnd (x y : Str) : Bool := memD (.str (x ++ y)) codes && decide (x.length = 1)
def lk (x y : Str) : Int := match lookD (.inr (x ++ y)) (dctD tab) with
  | some (.int i) => i
  | _ => -1
def chk (x y : Str) : Bool := (cnd x y == (isL x && isL y && !decide (x = y))) && (!cnd x y || (decide (lk x y = (ob x y : Nat)) && (lookD (.inr (x ++ y)) (dctD tab)).isSome)) && PyData.strOk x && PyData.strOk y && decide (x.length ≤ 2) && decide (y.length ≤ 2)
theorem chk_all : L1.all (fun x => L2'.all fun y => chk x y) = true := by decide +kernel
theorem chk_of {x y : Str} (hx : x ∈ L1) (hy : y ∈ L2') : chk x y = true := List.all_eq_true.mp (List.all_eq_true.mp chk_all x hx) y hy
theorem law_e (ns : List Int) (Q : O → Prop) (r : Ss) (ds : List Int) (c x4 x5 x6 : Slot)
    (go : ∀ (x y : Str) (ds : List Int), x ∈ L1 → y ∈ L2' → cB T_law r (Gm ns c .no x4 x5 x6 (.ro (.str x)) (.ro (.str y)) .no .no .no .no .no ds) Q) :
    cB T_law (.cons (.asg (.nm 7) (.idx (.lst (.cons (.con (.str "0")) (.cons (.con (.str "1")) (.cons (.con (.str "2")) (.cons (.con (.str "0")) (.cons (.con (.str "1")) (.cons (.con (.str "2")) (.cons (.con (.str "")) (.cons (.con (.str "3")) (.cons (.con (.str "01")) .nil)))))))))) (.call 11 (.cons (.var 1) (.cons (.con (.int 9)) .nil))))) (.cons (.asg (.nm 8) (.idx (.lst (.cons (.con (.str "0")) (.cons (.con (.str "1")) (.cons (.con (.str "2")) (.cons (.con (.str "0")) (.cons (.con (.str "1")) (.cons (.con (.str "2")) (.cons (.con (.str "")) (.cons (.con (.str "x")) (.cons (.con (.str "22")) .nil)))))))))) (.call 11 (.cons (.var 1) (.cons (.con (.int 9)) .nil))))) r)) (Gm ns c .no x4 x5 x6 .no .no .no .no .no .no .no ds) Q := by
  obtain ⟨b0, b1⟩ := pk_bd ds (m := 9) (by decide)
  obtain ⟨d, hd, hm⟩ := at_of (L1.map .str) (pk ds 9) b0 (by simpa [L1] using b1)
  obtain ⟨x, hx, rfl⟩ := List.mem_map.mp hm
  obtain ⟨c0, c1⟩ := pk_bd ds.dropLast (m := 9) (by decide)
  obtain ⟨d, he, hm⟩ := at_of (L2'.map .str) (pk ds.dropLast 9) c0 (by simpa [L2'] using c1)
  obtain ⟨y, hy, rfl⟩ := List.mem_map.mp hm
  have go := go x y ds.dropLast.dropLast hx hy
  unfold Gm at go ⊢
  have q2 := f_pk ds.dropLast 9 (by decide)
  simp only [List.map_dropLast] at q2 go
  simp only [L1, List.map_cons, List.map_nil] at hd
  simp only [L2', List.map_cons, List.map_nil] at he
  refine cB_step ?_
  simp [f_pk, T_law, ms__law_pick, hd, -Prod.exists, apd, flatD, cmpD, ordK, keeps, truD, binD, unD, retV, Post, outsE, hit, pass, biD, itD, tgIx, ioIx, outD, fzOk, fz, fzZ, modeAt, setTg, setSeq, asgV, putV, augD, mtTy, muts, mtMode, muD, mtD, sets, idxD, partD, isNop, wipeE, cL, boolX, intX, muX, parX, roX]
  refine cB_step ?_
  simp [q2, T_law, ms__law_pick, he, -Prod.exists, apd, flatD, cmpD, ordK, keeps, truD, binD, unD, retV, Post, outsE, hit, pass, biD, itD, tgIx, ioIx, outD, fzOk, fz, fzZ, modeAt, setTg, setSeq, asgV, putV, augD, mtTy, muts, mtMode, muD, mtD, sets, idxD, partD, isNop, wipeE, cL, boolX, intX, muX, parX, roX]
  exact go
end Fd.k00
end
section
set_option maxRecDepth 100000
set_option maxHeartbeats 2000000
namespace Fd.k00
open PySem
def pick3 (a b c : Int) (x y : Str) : Int := if ob x y = 0 then a else if ob x y = 1 then b else c
def due3 (a b c : Int) (x y : Str) : List D := [.none, if cnd x y = true then .int (pick3 a b c x y) else .str "word", .str (kindS (lt1 a b c) (lw a b c))]
theorem sub_ok (ns : List Int) (ds : List Int) (cc x3 x5 x6 x10 x11 x12 x13 : Slot) (a b c : Int) (x y : Str) (k : D) (hx : x ∈ L1) (hy : y ∈ L2') (hc : cnd x y = true) :
    evalS T_law (.sub 9 (.con (.int 1)) (.idx (.var 4) (.idxd (.dctc [((.str "01"), (.int 0)), ((.str "10"), (.int 0)), ((.str "12"), (.int 1)), ((.str "21"), (.int 1)), ((.str "02"), (.int 2)), ((.str "20"), (.int 2))]) (.bin .Add (.var 7) (.var 8)))))
      [.scr ns, .own false (.list (ds.map .int)), cc, x3, .ro (.tuple [.int a, .int b, .int c]), x5, x6, .ro (.str x), .ro (.str y), .own false (.list [.none, .str "word", k]), x10, x11, x12, x13] =
    some (.nx [.scr ns, .own false (.list (ds.map .int)), cc, x3, .ro (.tuple [.int a, .int b, .int c]), x5, x6, .ro (.str x), .ro (.str y), .own false (.list [.none, .int (pick3 a b c x y), k]), x10, x11, x12, x13]) := by
  have ch := chk_of hx hy
  unfold chk at ch
  simp only [Bool.and_eq_true, hc, Bool.not_true, Bool.false_or, decide_eq_true_eq] at ch
  obtain ⟨⟨⟨⟨⟨_, h2, h3⟩, _⟩, _⟩, lx⟩, ly⟩ := ch
  obtain ⟨d, hd⟩ := Option.isSome_iff_exists.mp h3
  have hd2 : d = .int (ob x y : Nat) := by
    unfold lk at h2
    rw [hd] at h2
    cases d with
    | int i => simp at h2; rw [h2]
    | _ => simp at h2
  subst hd2
  have hlen : x.length + y.length ≤ sizeLine := by rw [PySem.sizeLine_eq]; omega
  have hat : L2.atI [PyData.int a, .int b, .int c] ((ob x y : Nat) : Int) = some (.int (pick3 a b c x y)) := by
    unfold pick3 ob
    cases isSub "0" (x ++ y) <;> cases isSub "1" (x ++ y) <;> rfl
  have e1 : evalE T_law (.idx (.var 4) (.idxd (.dctc [((.str "01"), (.int 0)), ((.str "10"), (.int 0)), ((.str "12"), (.int 1)), ((.str "21"), (.int 1)), ((.str "02"), (.int 2)), ((.str "20"), (.int 2))]) (.bin .Add (.var 7) (.var 8))))
      [.scr ns, .own false (.list (ds.map .int)), cc, x3, .ro (.tuple [.int a, .int b, .int c]), x5, x6, .ro (.str x), .ro (.str y), .own false (.list [.none, .str "word", k]), x10, x11, x12, x13] = some (.ok .ro (.int (pick3 a b c x y)) []) := by
    have : ∃ r, evalE T_law (.idx (.var 4) (.idxd (.dctc [((.str "01"), (.int 0)), ((.str "10"), (.int 0)), ((.str "12"), (.int 1)), ((.str "21"), (.int 1)), ((.str "02"), (.int 2)), ((.str "20"), (.int 2))]) (.bin .Add (.var 7) (.var 8))))
      [.scr ns, .own false (.list (ds.map .int)), cc, x3, .ro (.tuple [.int a, .int b, .int c]), x5, x6, .ro (.str x), .ro (.str y), .own false (.list [.none, .str "word", k]), x10, x11, x12, x13] = some r ∧ Rok r (fun k d δ => k = .ro ∧ d = .int (pick3 a b c x y) ∧ δ = []) (fun _ _ => False) := by
      apply cE_ok
      have hdx : idxdD (.dict (dctD tab)) (.str (x ++ y)) = some (.int (ob x y : Nat)) := hd
      have ht : tab = [((.str "01"), (.int 0)), ((.str "10"), (.int 0)), ((.str "12"), (.int 1)), ((.str "21"), (.int 1)), ((.str "02"), (.int 2)), ((.str "20"), (.int 2))] := rfl
      rw [ht] at hdx
      simp [keyD, hlen, hdx, hat, -Prod.exists, apd, flatD, cmpD, ordK, keeps, truD, binD, unD, retV, Post, outsE, hit, pass, biD, itD, tgIx, ioIx, outD, fzOk, fz, fzZ, modeAt, setTg, setSeq, asgV, putV, augD, mtTy, muts, mtMode, muD, mtD, sets, idxD, partD, isNop, wipeE, cL, boolX, intX, muX, parX, roX]
    obtain ⟨r, e, q⟩ := this
    cases r with
    | ex _ _ => exact q.elim
    | ok k d δ =>
      obtain ⟨rfl, rfl, rfl⟩ := q
      exact e
  unfold evalS
  rw [e1]
  simp [O.thn, evalE, flatD, fzOk, fz, apd, L2.ixN]
theorem ind_in (x y : Str) : (memD (.str (x ++ y)) codes) = memD (.str (x ++ y)) codes := rfl
theorem law_f (ns : List Int) (Q : O → Prop) (r : Ss) (ds : List Int) (cc x6 : Slot) (a b c : Int) (x y : Str) (hx : x ∈ L1) (hy : y ∈ L2') (ho : isO [a, b, c] = true)
    (go : cB T_law r (Gm ns cc .no (.ro (.tuple [.int a, .int b, .int c])) (.ro (.bool true)) x6 (.ro (.str x)) (.ro (.str y)) (.own false (.list (due3 a b c x y))) .no .no .no .no ds) Q) :
    cB T_law (.cons (.asg (.nm 9) (.lst (.cons (.con (.str "orders")) (.cons (.con (.str "orders")) (.cons (.con (.str "orders")) .nil))))) (.cons (.ite (.var 5) (.cons (.asg (.nm 9) (.lst (.cons (.con .none) (.cons (.con (.str "word")) (.cons (.call 12 (.cons (.var 4) .nil)) .nil))))) (.cons (.ite (.tand (.cmp .In (.bin .Add (.var 7) (.var 8)) (.lst (.cons (.con (.str "01")) (.cons (.con (.str "10")) (.cons (.con (.str "12")) (.cons (.con (.str "21")) (.cons (.con (.str "02")) (.cons (.con (.str "20")) .nil)))))))) (.cmp .Eq (.bi .len (.cons (.var 7) .nil)) (.con (.int 1)))) (.cons (.sub 9 (.con (.int 1)) (.idx (.var 4) (.idxd (.dctc [((.str "01"), (.int 0)), ((.str "10"), (.int 0)), ((.str "12"), (.int 1)), ((.str "21"), (.int 1)), ((.str "02"), (.int 2)), ((.str "20"), (.int 2))]) (.bin .Add (.var 7) (.var 8))))) .nil) .nil) .nil)) .nil) r))
      (Gm ns cc .no (.ro (.tuple [.int a, .int b, .int c])) (.ro (.bool true)) x6 (.ro (.str x)) (.ro (.str y)) .no .no .no .no .no ds) Q := by
  have ch := chk_of hx hy
  unfold chk at ch
  simp only [Bool.and_eq_true, decide_eq_true_eq] at ch
  obtain ⟨⟨⟨⟨_, _⟩, _⟩, lx⟩, ly⟩ := ch
  have hlen : x.length + y.length ≤ sizeLine := by rw [PySem.sizeLine_eq]; omega
  have hlx : x.length ≤ sizeLine := by rw [PySem.sizeLine_eq]; omega
  have e1 := f_law_kind a b c ho
  refine cB_step ?_
  simp [Gm, -Prod.exists, apd, flatD, cmpD, ordK, keeps, truD, binD, unD, retV, Post, outsE, hit, pass, biD, itD, tgIx, ioIx, outD, fzOk, fz, fzZ, modeAt, setTg, setSeq, asgV, putV, augD, mtTy, muts, mtMode, muD, mtD, sets, idxD, partD, isNop, wipeE, cL, boolX, intX, muX, parX, roX]
  refine cB_step ?_
  simp [-Prod.exists, apd, flatD, cmpD, ordK, keeps, truD, binD, unD, retV, Post, outsE, hit, pass, biD, itD, tgIx, ioIx, outD, fzOk, fz, fzZ, modeAt, setTg, setSeq, asgV, putV, augD, mtTy, muts, mtMode, muD, mtD, sets, idxD, partD, isNop, wipeE, cL, boolX, intX, muX, parX, roX]
  refine cB_step ?_
  simp [e1, T_law, ms__law_kind, -Prod.exists, apd, flatD, cmpD, ordK, keeps, truD, binD, unD, retV, Post, outsE, hit, pass, biD, itD, tgIx, ioIx, outD, fzOk, fz, fzZ, modeAt, setTg, setSeq, asgV, putV, augD, mtTy, muts, mtMode, muD, mtD, sets, idxD, partD, isNop, wipeE, cL, boolX, intX, muX, parX, roX]
  refine cB_step ?_
  have em : memD (.str (x ++ y)) [.str "01", .str "10", .str "12", .str "21", .str "02", .str "20"] = memD (.str (x ++ y)) codes := rfl
  have el := len_eq x.length 1
  cases h1 : memD (.str (x ++ y)) codes
  · have hc : cnd x y = false := by unfold cnd; rw [h1]; rfl
    simp [hlen, em, h1, -Prod.exists, apd, flatD, cmpD, ordK, keeps, truD, binD, unD, retV, Post, outsE, hit, pass, biD, itD, tgIx, ioIx, outD, fzOk, fz, fzZ, modeAt, setTg, setSeq, asgV, putV, augD, mtTy, muts, mtMode, muD, mtD, sets, idxD, partD, isNop, wipeE, cL, boolX, intX, muX, parX, roX]
    refine cB_nil ?_
    refine cB_nil ?_
    unfold due3 Gm at go
    rw [hc] at go
    simpa using go
  · by_cases h2 : x.length = 1
    · have hc : cnd x y = true := by unfold cnd; rw [h1]; simp [h2]
      have sb := sub_ok ns ds cc .no (.ro (.bool true)) x6 .no .no .no .no a b c x y (.str (kindS (lt1 a b c) (lw a b c))) hx hy hc
      have hl1 : 1 + y.length ≤ sizeLine := by rw [← h2]; exact hlen
      simp [hl1, hlx, em, h1, h2, -Prod.exists, apd, flatD, cmpD, ordK, keeps, truD, binD, unD, retV, Post, outsE, hit, pass, biD, itD, tgIx, ioIx, outD, fzOk, fz, fzZ, modeAt, setTg, setSeq, asgV, putV, augD, mtTy, muts, mtMode, muD, mtD, sets, idxD, partD, isNop, wipeE, cL, boolX, intX, muX, parX, roX]
      refine cB_step ?_
      rw [cS, sb]
      simp
      refine cB_nil ?_
      refine cB_nil ?_
      unfold due3 Gm at go
      rw [hc] at go
      simpa using go
    · have hc : cnd x y = false := by unfold cnd; rw [h1]; simp [h2]
      have h3 : ¬ (x.length : Int) = 1 := by omega
      simp [hlen, hlx, em, h1, h3, -Prod.exists, apd, flatD, cmpD, ordK, keeps, truD, binD, unD, retV, Post, outsE, hit, pass, biD, itD, tgIx, ioIx, outD, fzOk, fz, fzZ, modeAt, setTg, setSeq, asgV, putV, augD, mtTy, muts, mtMode, muD, mtD, sets, idxD, partD, isNop, wipeE, cL, boolX, intX, muX, parX, roX]
      refine cB_nil ?_
      refine cB_nil ?_
      unfold due3 Gm at go
      rw [hc] at go
      simpa using go
end Fd.k00
end
section
set_option maxRecDepth 100000
set_option maxHeartbeats 2000000
namespace Fd.k00
open PySem
def rpok (d : D) : Bool := d.showable && !d.hasDict && decide (d.depth ≤ 63) && decide (d.shown.length ≤ 16777216) && PyData.strOk d.shown
def K3 : List Str := ["round", "flat", "wide"]
theorem rp_a : OO.all (fun n => K3.all fun k => rpok (.list [.none, .int n, .str k])) = true := by decide +kernel
theorem rp_b : K3.all (fun k => rpok (.list [.none, .str "word", .str k])) = true := by decide +kernel
theorem rp_c : rpok (.list [.str "orders", .str "orders", .str "orders"]) = true := by decide +kernel
theorem rp_d : rpok .none = true ∧ rpok (.str "word") = true := by decide +kernel
theorem kind_in (t p : Int) : kindS t p ∈ K3 := by
  unfold kindS K3
  split
  · simp
  · split <;> simp
theorem rp_due (a b c : Int) (x y : Str) (ho : isO [a, b, c] = true) : rpok (.list (due3 a b c x y)) = true := by
  obtain ⟨ha, hb, hc⟩ := isO3 ho
  unfold due3
  split
  · have : pick3 a b c x y ∈ OO := by
      unfold pick3
      split
      · exact okO_mem ha
      · split
        · exact okO_mem hb
        · exact okO_mem hc
    exact List.all_eq_true.mp (List.all_eq_true.mp rp_a _ this) _ (kind_in _ _)
  · exact List.all_eq_true.mp rp_b _ (kind_in _ _)
/-- two equal reprs -/
theorem rp_bi (k : Kd) (d : D) (hk : ordK k = true) (h : rpok d = true) : biD .repr [(k, d)] = some (.ro, .str d.shown) := by
  unfold rpok at h
  simp only [Bool.and_eq_true, Bool.not_eq_true', decide_eq_true_eq] at h
  obtain ⟨⟨⟨⟨h1, h2⟩, h3⟩, h4⟩, h5⟩ := h
  have h6 : d.shown.length ≤ sizeLine := by rw [PySem.sizeLine_eq]; exact h4
  simp [biD, hk, h1, h2, h3, h6]
theorem rp_so (d : D) (h : rpok d = true) : PyData.strOk d.shown = true := by
  unfold rpok at h
  rw [Bool.and_eq_true] at h
  exact h.2
theorem lc3 {g : Ev → D → Option (List D × Dl)} {Γ : Ev} {a b c d0 d1 d2 : D} (h0 : g Γ a = some ([d0], [])) (h1 : g Γ b = some ([d1], [])) (h2 : g Γ c = some ([d2], [])) : lcL g .ro [a, b, c] Γ = some ([d0, d1, d2], []) := by
  have hk : keeps [] Kd.ro = true := rfl
  simp [lcL, h0, h1, h2, hk, apd]
end Fd.k00
end
section
set_option maxRecDepth 100000
set_option maxHeartbeats 2000000
namespace Fd.k00
open PySem
theorem law_g (ns : List Int) (Q : O → Prop) (r : Ss) (ds : List Int) (cc x4 x5 x6 x7 x8 : Slot) (xs : List D) (hr : rpok (.list xs) = true)
    (hlc : lcL (lcF T_law e3_law [10] (.nm 10) (.con (.bool true))) .ro [.int 0, .int 1, .int 2] (Gm ns cc .no x4 x5 x6 x7 x8 (.own false (.list xs)) .no .no .no .no ds) = some (xs, []))
    (go : cB T_law r (Gm ns cc .no x4 x5 x6 x7 x8 (.own false (.list xs)) .no .no .no .no ds) Q) :
    cB T_law (.cons (.ite (.cmp .NotEq (.bi .repr (.cons (.lc e3_law [10] (.nm 10) (.rng1 (.con (.int 3))) (.con (.bool true))) .nil)) (.bi .repr (.cons (.var 9) .nil))) (.cons (.ret (.con (.bool false))) .nil) .nil) r) (Gm ns cc .no x4 x5 x6 x7 x8 (.own false (.list xs)) .no .no .no .no ds) Q := by
  have er : rngD 0 3 = [.int 0, .int 1, .int 2] := by rfl
  have ok3 : okR 3 = true := by decide
  have r1 := rp_bi .fr (.list xs) rfl hr
  have r2 := rp_bi (.al 9) (.list xs) rfl hr
  have so := rp_so _ hr
  unfold Gm at hlc go ⊢
  refine cB_step ?_
  have ES1 : ∀ k, pass [Slot.scr ns, .own false (.list (ds.map .int)), cc, .no, x4, x5, x6, x7, x8, .own false (.list xs), .no, .no, .no, .no] .bo k (.list xs) = some (k, []) := fun k => rfl
  simp [er, ok3, hlc, apd, flatD, intX, itD, tgIx, pass, keeps, hit, r1, r2, cmpD, ordK, so, truD]
  refine cB_nil ?_
  exact go
/-- a call with four data -/
theorem cE_call4 {T : Nat → Option Fc} {f a b c d : Nat} {F : Fc} {Γ : Ev} {da db dc dd r : D} {Q : Kd → D → Dl → Prop} {X : Exn → Dl → Prop} (hT : T f = some F) (hm : F.ms = [.fz, .fz, .fz, .fz]) (ha : Γ[a]? = some (.ro da)) (hb : Γ[b]? = some (.ro db)) (hc : Γ[c]? = some (.ro dc)) (hd : Γ[d]? = some (.ro dd))
    (h : F.f [da, db, dc, dd] = some (.ok false r [])) (q : Q .ro r []) : cE T (.call f (.cons (.var a) (.cons (.var b) (.cons (.var c) (.cons (.var d) .nil))))) Γ Q X := by
  unfold cE
  refine ⟨F, hT, ?_⟩
  dsimp only
  rw [hm]
  have one : ∀ {i : Nat} {e : D} {m : Nat → Md} {es : Es} {Q : List (Kd × D) → Dl → Prop} {X : Exn → Dl → Prop}, Γ[i]? = some (.ro e) → m 0 = .fz → cA T (fun n => m (n + 1)) es Γ (fun kds δ => Q ((.ro, e) :: kds) δ) X → cA T m (.cons (.var i) es) Γ Q X := by
    intro i e m es Q X hi h0 hq
    unfold cA cE
    rw [hi]
    refine ⟨(.ro, []), by rw [h0]; rfl, ?_⟩
    show cA T (fun n => m (n + 1)) es Γ (fun kds δ2 => keeps δ2 .ro = true ∧ Q ((.ro, e) :: kds) δ2) fun c δ2 => X c δ2
    have e1 : (fun (kds : List (Kd × D)) (δ2 : Dl) => keeps δ2 Kd.ro = true ∧ Q ((.ro, e) :: kds) δ2) = fun kds δ2 => Q ((.ro, e) :: kds) δ2 := by
      funext kds δ2
      simp [keeps]
    rw [e1]
    exact hq
  refine one ha rfl (one hb rfl (one hc rfl (one hd rfl ?_)))
  unfold cA
  refine ⟨_, h, ?_⟩
  exact ⟨[], rfl, q⟩
theorem c3 (ns : List Int) (ds : List Int) (cc x5 x6 x9 x11 x12 x13 : Slot) (os : List Int) (x y : Str) (w : Int) (d : D) (h : F__law_told.f [.int w, .tuple (os.map .int), .str x, .str y] = some (.ok false d [])) :
    lcF T_law e3_law [10] (.nm 10) (.con (.bool true)) [.scr ns, .own false (.list (ds.map .int)), cc, .no, .ro (.tuple (os.map .int)), x5, x6, .ro (.str x), .ro (.str y), x9, .no, x11, x12, x13] (.int w) = some ([d], []) := by
  have : ∃ o δ, lcF T_law e3_law [10] (.nm 10) (.con (.bool true)) [.scr ns, .own false (.list (ds.map .int)), cc, .no, .ro (.tuple (os.map .int)), x5, x6, .ro (.str x), .ro (.str y), x9, .no, x11, x12, x13] (.int w) = some (o, δ) ∧ o = [d] ∧ δ = [] := by
    apply lcF_of
    refine ⟨rfl, [Slot.scr ns, .own false (.list (ds.map .int)), cc, .no, .ro (.tuple (os.map .int)), x5, x6, .ro (.str x), .ro (.str y), x9, .ro (.int w), x11, x12, x13], rfl, ?_⟩
    unfold cE
    refine ⟨rfl, true, rfl, ?_⟩
    simp only [if_true]
    unfold e3_law
    exact cE_call4 rfl ms__law_told rfl rfl rfl rfl h ⟨rfl, rfl, rfl⟩
  obtain ⟨o, δ, e, rfl, rfl⟩ := this
  exact e
theorem told_good (a b c : Int) (x y : Str) (hx : x ∈ L1) (hy : y ∈ L2') (ho : isO [a, b, c] = true) : F__law_told.f [.int 1, .tuple [.int a, .int b, .int c], .str x, .str y] = some (.ok false (if cnd x y = true then .int (pick3 a b c x y) else .str "word") []) := by
  have ch := chk_of hx hy
  unfold chk at ch
  simp only [Bool.and_eq_true, decide_eq_true_eq, beq_iff_eq] at ch
  obtain ⟨⟨⟨⟨⟨h1, _⟩, sx⟩, sy⟩, lx⟩, ly⟩ := ch
  have hlen : x.length + y.length ≤ sizeLine := by rw [PySem.sizeLine_eq]; omega
  rw [told1 a b c x y (by rw [PySem.sizeLine_eq]; omega) (by rw [PySem.sizeLine_eq]; omega) hlen sx sy ho, h1]
  rfl
end Fd.k00
end
section
set_option maxRecDepth 100000
set_option maxHeartbeats 2000000
namespace Fd.k00
open PySem
theorem lc_good (ns ds : List Int) (cc x5 x6 x9 : Slot) (a b c : Int) (x y : Str) (hx : x ∈ L1) (hy : y ∈ L2') (ho : isO [a, b, c] = true) :
    lcL (lcF T_law e3_law [10] (.nm 10) (.con (.bool true))) .ro [.int 0, .int 1, .int 2] (Gm ns cc .no (.ro (.tuple [.int a, .int b, .int c])) x5 x6 (.ro (.str x)) (.ro (.str y)) x9 .no .no .no .no ds) = some (due3 a b c x y, []) := by
  have h0 := told0 [a, b, c] x y (by simp)
  rw [if_pos ho] at h0
  have h1 := told_good a b c x y hx hy ho
  have h2 := told2 a b c x y ho
  rw [kinds_eq a b c ho] at h2
  exact lc3 (c3 ns ds cc x5 x6 x9 .no .no .no [a, b, c] x y 0 _ h0) (c3 ns ds cc x5 x6 x9 .no .no .no [a, b, c] x y 1 _ h1) (c3 ns ds cc x5 x6 x9 .no .no .no [a, b, c] x y 2 _ h2)
def dueX : List D := [.str "orders", .str "orders", .str "orders"]
theorem lc_bad (ns ds : List Int) (cc x5 x6 x9 : Slot) (os : List Int) (x y : Str) (hz : os.length ≤ sizeLine) (ho : isO os = false) :
    lcL (lcF T_law e3_law [10] (.nm 10) (.con (.bool true))) .ro [.int 0, .int 1, .int 2] (Gm ns cc .no (.ro (.tuple (os.map .int))) x5 x6 (.ro (.str x)) (.ro (.str y)) x9 .no .no .no .no ds) = some (dueX, []) := by
  have h0 := told0 os x y hz
  rw [if_neg (by rw [ho]; decide)] at h0
  exact lc3 (c3 ns ds cc x5 x6 x9 .no .no .no os x y 0 _ h0) (c3 ns ds cc x5 x6 x9 .no .no .no os x y 1 _ (told1X os x y hz ho)) (c3 ns ds cc x5 x6 x9 .no .no .no os x y 2 _ (told2X os x y hz ho))
end Fd.k00
end
section
set_option maxRecDepth 100000
set_option maxHeartbeats 2000000
namespace Fd.k00
open PySem
theorem law_f0 (ns : List Int) (Q : O → Prop) (r blk : Ss) (ds : List Int) (cc x4 x6 x7 x8 : Slot)
    (go : cB T_law r (Gm ns cc .no x4 (.ro (.bool false)) x6 x7 x8 (.own false (.list dueX)) .no .no .no .no ds) Q) :
    cB T_law (.cons (.asg (.nm 9) (.lst (.cons (.con (.str "orders")) (.cons (.con (.str "orders")) (.cons (.con (.str "orders")) .nil))))) (.cons (.ite (.var 5) blk .nil) r)) (Gm ns cc .no x4 (.ro (.bool false)) x6 x7 x8 .no .no .no .no .no ds) Q := by
  refine cB_step ?_
  simp [Gm, -Prod.exists, apd, flatD, cmpD, ordK, keeps, truD, binD, unD, retV, Post, outsE, hit, pass, biD, itD, tgIx, ioIx, outD, fzOk, fz, fzZ, modeAt, setTg, setSeq, asgV, putV, augD, mtTy, muts, mtMode, muD, mtD, sets, idxD, partD, isNop, wipeE, cL, boolX, intX, muX, parX, roX]
  refine cB_step ?_
  simp [-Prod.exists, apd, flatD, cmpD, ordK, keeps, truD, binD, unD, retV, Post, outsE, hit, pass, biD, itD, tgIx, ioIx, outD, fzOk, fz, fzZ, modeAt, setTg, setSeq, asgV, putV, augD, mtTy, muts, mtMode, muD, mtD, sets, idxD, partD, isNop, wipeE, cL, boolX, intX, muX, parX, roX]
  refine cB_nil ?_
  exact go
/-- a drawn letter -/
def L3 : List Str := ["0", "1", "2"]
theorem sz012 : (Str.ofString "012").length ≤ sizeLine := by rw [PySem.sizeLine_eq]; decide
theorem at3_0 : idxD (.str "012") (.int 0) = some (.str "0") := by
  unfold idxD
  show (if (Str.ofString "012").length ≤ sizeLine then _ else none) = _
  rw [if_pos sz012]
  rfl
theorem at3_1 : idxD (.str "012") (.int 1) = some (.str "1") := by
  unfold idxD
  show (if (Str.ofString "012").length ≤ sizeLine then _ else none) = _
  rw [if_pos sz012]
  rfl
theorem at3_2 : idxD (.str "012") (.int 2) = some (.str "2") := by
  unfold idxD
  show (if (Str.ofString "012").length ≤ sizeLine then _ else none) = _
  rw [if_pos sz012]
  rfl
theorem e2 (s c k x4 x5 x6 x7 x8 x9 x10 x11 x12 x13 : Slot) (ds : List Int) (i : D) (hs : nOk k = true) (hk : sOk k = true) : ∃ v, v ∈ L3 ∧ lcF T_law e2_law [3] (.nm 3) (.con (.bool true)) [s, .own false (.list (ds.map .int)), c, k, x4, x5, x6, x7, x8, x9, x10, x11, x12, x13] i = some ([.str v], [(1, .own false (.list (ds.dropLast.map .int)))]) := by
  obtain ⟨b0, b1⟩ := pk_bd ds (m := 3) (by decide)
  have : ∃ v, v ∈ L3 ∧ idxD (.str "012") (.int (pk ds 3)) = some (.str v) := by
    have : pk ds 3 = 0 ∨ pk ds 3 = 1 ∨ pk ds 3 = 2 := by omega
    rcases this with e | e | e <;> rw [e]
    · exact ⟨"0", by simp [L3], at3_0⟩
    · exact ⟨"1", by simp [L3], at3_1⟩
    · exact ⟨"2", by simp [L3], at3_2⟩
  obtain ⟨v, hv, e⟩ := this
  refine ⟨v, hv, ?_⟩
  have : ∃ o δ, lcF T_law e2_law [3] (.nm 3) (.con (.bool true)) [s, .own false (.list (ds.map .int)), c, k, x4, x5, x6, x7, x8, x9, x10, x11, x12, x13] i = some (o, δ) ∧ o = [.str v] ∧ δ = [(1, .own false (.list (ds.dropLast.map .int)))] := by
    apply lcF_of
    simp [-Prod.exists, e2_law, hs, T_law, ms__law_pick, f_pk, e, cL, apd, flatD, keeps, truD, hit, pass, ioIx, outD, fzOk, fz, modeAt, setTg, wipeE]
  obtain ⟨o, δ, e', rfl, rfl⟩ := this
  exact e'
end Fd.k00
end
section
set_option maxRecDepth 100000
set_option maxHeartbeats 2000000
namespace Fd.k00
open PySem
theorem fold_len (g : Array Nat) (hg : g = #[]) : ∀ (ps : List Str) (acc : Array Nat), (ps.foldl (fun acc p => acc ++ g ++ p.cps) acc).size = acc.size + (ps.map (·.length)).sum
  | [], acc => by simp
  | p :: r, acc => by
    rw [List.foldl_cons, fold_len g hg r]
    subst hg
    simp [Str.length]
    omega
theorem join_len (ys : List Str) : (Txt.join "" ys).length = (ys.map (·.length)).sum := by
  show ((ys.drop 1).foldl (fun acc p => acc ++ (Str.ofString "").cps ++ p.cps) (ys.headD Str.empty).cps).size = _
  rw [fold_len (Str.ofString "").cps rfl]
  cases ys with
  | nil => rfl
  | cons y r => simp [Str.length]
theorem lc_drawS {elt : E} (G : List Int → Ev) (step : ∀ ds i, ∃ v, v ∈ L3 ∧ lcF T_law elt [3] (.nm 3) (.con (.bool true)) (G ds) i = some ([.str v], [(1, .own false (.list (ds.dropLast.map .int)))])) (mv : ∀ ds, apd (G ds) [(1, .own false (.list (ds.dropLast.map .int)))] = G ds.dropLast) :
    ∀ (xs : List D) (ds : List Int), ∃ (ss : List Str) (δ : Dl) (ds' : List Int), lcL (lcF T_law elt [3] (.nm 3) (.con (.bool true))) .ro xs (G ds) = some (ss.map PyData.str, δ) ∧ ss.length = xs.length ∧ (∀ v ∈ ss, v ∈ L3) ∧ apd (G ds) δ = G ds'
  | [], ds => ⟨[], [], ds, rfl, rfl, by simp, rfl⟩
  | x :: xs, ds => by
    obtain ⟨v, h1, e⟩ := step ds x
    obtain ⟨ss, δ, ds', e2, hl, hb, ha⟩ := lc_drawS G step mv xs ds.dropLast
    refine ⟨v :: ss, (1, .own false (.list (ds.dropLast.map .int))) :: δ, ds', ?_, by simp [hl], ?_, ?_⟩
    · unfold lcL
      rw [e]
      have hk : keeps [(1, Slot.own false (.list (ds.dropLast.map .int)))] .ro = true := rfl
      simp only [if_pos hk, mv, e2]
      rfl
    · intro w hw
      rcases List.mem_cons.mp hw with rfl | hw
      · exact h1
      · exact hb w hw
    · show apd (apd (G ds) [(1, .own false (.list (ds.dropLast.map .int)))]) δ = _
      rw [mv]
      exact ha
theorem L3_len {v : Str} (h : v ∈ L3) : v.length = 1 := by
  simp [L3] at h
  rcases h with rfl | rfl | rfl <;> rfl
theorem sum_L3 : ∀ {ss : List Str}, (∀ v ∈ ss, v ∈ L3) → (ss.map (·.length)).sum = ss.length
  | [], _ => rfl
  | s :: r, h => by
    rw [List.map_cons, List.sum_cons, L3_len (h s List.mem_cons_self), sum_L3 fun v hv => h v (List.mem_cons_of_mem _ hv)]
    simp
    omega
end Fd.k00
end
section
set_option maxRecDepth 100000
set_option maxHeartbeats 2000000
namespace Fd.k00
open PySem
theorem law_h (ns : List Int) (Q : O → Prop) (r : Ss) (ds : List Int) (cc x4 x5 x6 x7 x8 x9 : Slot)
    (go : ∀ (w : Str) (ds : List Int), w.length ≤ 62 → cB T_law r (Gm ns cc .no x4 x5 x6 x7 x8 x9 .no (.ro (.str w)) .no .no ds) Q) :
    cB T_law (.cons (.asg (.nm 11) (.mt .join (.con (.str "")) (.cons (.lc e2_law [3] (.nm 3) (.rng1 (.call 11 (.cons (.var 1) (.cons (.con (.int 63)) .nil)))) (.con (.bool true))) .nil))) r) (Gm ns cc .no x4 x5 x6 x7 x8 x9 .no .no .no .no ds) Q := by
  obtain ⟨b0, b1⟩ := pk_bd ds (m := 63) (by decide)
  have okp : okR (pk ds 63) = true := by
    unfold okR
    rw [Bool.and_eq_true, decide_eq_true_eq, decide_eq_true_eq]
    omega
  obtain ⟨ss, δ, ds', e, hl, hb, ha⟩ := lc_drawS (elt := e2_law) (Gm ns cc .no x4 x5 x6 x7 x8 x9 .no .no .no .no) (fun ds i => e2 _ _ _ _ _ _ _ _ _ _ _ _ _ ds i rfl rfl) (fun ds => rfl) (rngD 0 (pk ds 63)) ds.dropLast
  unfold Gm at e ha go ⊢
  simp only [List.map_dropLast] at e ha
  have hl1 : (rngD 0 (pk ds 63)).length = (pk ds 63).toNat := by simp [rngD]
  have hl2 : (rngD 0 (pk ds 63)).length ≤ sizeLine := by rw [hl1, PySem.sizeLine_eq]; omega
  have hs := sum_L3 hb
  have hlen : ss.length ≤ 62 := by rw [hl, hl1]; omega
  have hj : (ss.map (·.length)).sum + ss.length * (Str.ofString "").length ≤ 16777216 := by
    have h0 : (Str.ofString "").length = 0 := rfl
    rw [hs, h0]; omega
  have gg := go (Txt.join "" ss) ds' (by rw [join_len, hs]; exact hlen)
  refine cB_step ?_
  simp [f_pk, T_law, ms__law_pick, okp, e, ha, hl2, strs_map, hj, -Prod.exists, apd, flatD, cmpD, ordK, keeps, truD, binD, unD, retV, Post, outsE, hit, pass, biD, itD, tgIx, ioIx, outD, fzOk, fz, fzZ, modeAt, setTg, setSeq, asgV, putV, augD, mtTy, muts, mtMode, muD, mtD, sets, idxD, partD, isNop, wipeE, cL, boolX, intX, muX, parX, roX]
  exact gg
end Fd.k00
end
section
set_option maxRecDepth 100000
set_option maxHeartbeats 2000000
namespace Fd.k00
open PySem
def L4 : List Str := ["3", " ", "a", "-"]
theorem app_len (x y : Str) : (x ++ y).length = x.length + y.length := by
  show (x.cps ++ y.cps).size = _
  rw [Array.size_append]; rfl
/-- the three parts of the changed word -/
theorem p_lo (ns : List Int) (dd : List PyData) (cc x4 x5 x6 x7 x8 x9 : Slot) (w : Str) (at_ : Int) (hz : w.length ≤ sizeLine) (Q : Kd → PyData → Dl → Prop) (X : Exn → Dl → Prop) (q : Q .ro (.str (L2.cutS w none (some at_))) []) :
    cE T_law (.slc (.var 11) .nop (.var 12)) [.scr ns, .own false (.list dd), cc, .no, x4, x5, x6, x7, x8, x9, .no, .ro (.str w), .ro (.int at_), .no] Q X := by
  simp [hz, -Prod.exists, apd, flatD, cmpD, ordK, keeps, truD, binD, unD, retV, Post, outsE, hit, pass, biD, itD, tgIx, ioIx, outD, fzOk, fz, fzZ, modeAt, setTg, setSeq, asgV, putV, augD, mtTy, muts, mtMode, muD, mtD, sets, idxD, partD, isNop, wipeE, cL, boolX, intX, muX, parX, roX]
  exact q
theorem p_hi (ns : List Int) (dd : List PyData) (cc x4 x5 x6 x7 x8 x9 : Slot) (w : Str) (at_ : Int) (hz : w.length ≤ sizeLine) (Q : Kd → PyData → Dl → Prop) (X : Exn → Dl → Prop) (q : Q .ro (.str (L2.cutS w (some at_) none)) []) :
    cE T_law (.slc (.var 11) (.var 12) .nop) [.scr ns, .own false (.list dd), cc, .no, x4, x5, x6, x7, x8, x9, .no, .ro (.str w), .ro (.int at_), .no] Q X := by
  simp [hz, -Prod.exists, apd, flatD, cmpD, ordK, keeps, truD, binD, unD, retV, Post, outsE, hit, pass, biD, itD, tgIx, ioIx, outD, fzOk, fz, fzZ, modeAt, setTg, setSeq, asgV, putV, augD, mtTy, muts, mtMode, muD, mtD, sets, idxD, partD, isNop, wipeE, cL, boolX, intX, muX, parX, roX]
  exact q
theorem p_mid (ns : List Int) (dd : List PyData) (cc x4 x5 x6 x7 x8 x9 : Slot) (w : Str) (at_ k : Int) (v : Str) (hp : F__law_pick.f [.list dd, .int 4] = some (.ok false (.int k) [.list dd.dropLast]))
    (hv : L2.atI [PyData.str "3", PyData.str " ", PyData.str "a", PyData.str "-"] k = some (.str v)) (Q : Kd → PyData → Dl → Prop) (X : Exn → Dl → Prop) (q : Q .ro (.str v) [(1, .own false (.list dd.dropLast))]) :
    cE T_law (.idx (.lst (.cons (.con (.str "3")) (.cons (.con (.str " ")) (.cons (.con (.str "a")) (.cons (.con (.str "-")) .nil))))) (.call 11 (.cons (.var 1) (.cons (.con (.int 4)) .nil)))) [.scr ns, .own false (.list dd), cc, .no, x4, x5, x6, x7, x8, x9, .no, .ro (.str w), .ro (.int at_), .no] Q X := by
  simp [hp, hv, T_law, ms__law_pick, -Prod.exists, apd, flatD, cmpD, ordK, keeps, truD, binD, unD, retV, Post, outsE, hit, pass, biD, itD, tgIx, ioIx, outD, fzOk, fz, fzZ, modeAt, setTg, setSeq, asgV, putV, augD, mtTy, muts, mtMode, muD, mtD, sets, idxD, partD, isNop, wipeE, cL, boolX, intX, muX, parX, roX]
  exact q
theorem law_i (ns : List Int) (Q : O → Prop) (r : Ss) (ds : List Int) (cc x4 x5 x6 x7 x8 x9 : Slot) (w : Str) (hw : w.length ≤ 62)
    (go : ∀ (w : Str) (ds : List Int) (x12 : Slot), w.length ≤ 1000 → cB T_law r (Gm ns cc .no x4 x5 x6 x7 x8 x9 .no (.ro (.str w)) x12 .no ds) Q) :
    cB T_law (.cons (.ite (.cmp .Eq (.call 11 (.cons (.var 1) (.cons (.con (.int 4)) .nil))) (.con (.int 0))) (.cons (.asg (.nm 12) (.call 11 (.cons (.var 1) (.cons (.bin .Add (.bi .len (.cons (.var 11) .nil)) (.con (.int 1))) .nil)))) (.cons (.asg (.nm 11) (.bin .Add (.bin .Add (.slc (.var 11) .nop (.var 12)) (.idx (.lst (.cons (.con (.str "3")) (.cons (.con (.str " ")) (.cons (.con (.str "a")) (.cons (.con (.str "-")) .nil))))) (.call 11 (.cons (.var 1) (.cons (.con (.int 4)) .nil))))) (.slc (.var 11) (.var 12) .nop))) .nil)) .nil) r) (Gm ns cc .no x4 x5 x6 x7 x8 x9 .no (.ro (.str w)) .no .no ds) Q := by
  have hz : w.length ≤ sizeLine := by rw [PySem.sizeLine_eq]; omega
  refine cB_step ?_
  by_cases h : pk ds 4 = 0
  · simp [f_pk, T_law, ms__law_pick, Gm, h, -Prod.exists, apd, flatD, cmpD, ordK, keeps, truD, binD, unD, retV, Post, outsE, hit, pass, biD, itD, tgIx, ioIx, outD, fzOk, fz, fzZ, modeAt, setTg, setSeq, asgV, putV, augD, mtTy, muts, mtMode, muD, mtD, sets, idxD, partD, isNop, wipeE, cL, boolX, intX, muX, parX, roX]
    refine cB_step ?_
    have h1 : ((w.length : Int) + 1) ≠ 0 := by omega
    have hp := f_pk ds.dropLast ((w.length : Int) + 1) h1
    simp only [List.map_dropLast] at hp
    simp [hp, hz, T_law, ms__law_pick, -Prod.exists, apd, flatD, cmpD, ordK, keeps, truD, binD, unD, retV, Post, outsE, hit, pass, biD, itD, tgIx, ioIx, outD, fzOk, fz, fzZ, modeAt, setTg, setSeq, asgV, putV, augD, mtTy, muts, mtMode, muD, mtD, sets, idxD, partD, isNop, wipeE, cL, boolX, intX, muX, parX, roX]
    generalize pk ds.dropLast ((w.length : Int) + 1) = at_
    refine cB_step ?_
    have hp2 := f_pk ds.dropLast.dropLast 4 (by decide)
    simp only [List.map_dropLast] at hp2
    obtain ⟨b0, b1⟩ := pk_bd ds.dropLast.dropLast (m := 4) (by decide)
    have : ∃ v : Str, L2.atI [PyData.str "3", PyData.str " ", PyData.str "a", PyData.str "-"] (pk ds.dropLast.dropLast 4) = some (.str v) ∧ v.length = 1 := by
      generalize pk ds.dropLast.dropLast 4 = k at b0 b1
      have : k = 0 ∨ k = 1 ∨ k = 2 ∨ k = 3 := by omega
      rcases this with e | e | e | e <;> rw [e]
      · exact ⟨"3", rfl, rfl⟩
      · exact ⟨" ", rfl, rfl⟩
      · exact ⟨"a", rfl, rfl⟩
      · exact ⟨"-", rfl, rfl⟩
    obtain ⟨v, hv, lv⟩ := this
    have c1 := L2.cutS_length w none (some at_)
    have c2 := L2.cutS_length w (some at_) none
    have z1 : (L2.cutS w none (some at_)).length + v.length ≤ sizeLine := by rw [PySem.sizeLine_eq]; omega
    have z2 : (L2.cutS w none (some at_) ++ v).length + (L2.cutS w (some at_) none).length ≤ sizeLine := by rw [PySem.sizeLine_eq, app_len]; omega
    have gg := go (L2.cutS w none (some at_) ++ v ++ L2.cutS w (some at_) none) ds.dropLast.dropLast.dropLast (.ro (.int at_)) (by rw [app_len, app_len]; omega)
    unfold Gm at gg
    simp only [List.map_dropLast] at gg
    have pA := p_lo ns (ds.map PyData.int).dropLast.dropLast cc x4 x5 x6 x7 x8 x9 w at_ hz
    have pC := p_hi ns (ds.map PyData.int).dropLast.dropLast.dropLast cc x4 x5 x6 x7 x8 x9 w at_ hz
    have pB := p_mid ns (ds.map PyData.int).dropLast.dropLast cc x4 x5 x6 x7 x8 x9 w at_ (pk ds.dropLast.dropLast 4) v hp2 hv
    rw [cS, cE, cE]
    refine pA _ _ ?_
    refine pB _ _ ?_
    refine ⟨rfl, _, by simp [binD, z1]; rfl, ?_⟩
    refine pC _ _ ?_
    refine ⟨rfl, _, by simp [binD, z2]; rfl, ?_⟩
    refine ⟨_, rfl, ?_⟩
    refine cB_nil ?_
    exact gg
  · simp [f_pk, T_law, ms__law_pick, Gm, h, -Prod.exists, apd, flatD, cmpD, ordK, keeps, truD, binD, unD, retV, Post, outsE, hit, pass, biD, itD, tgIx, ioIx, outD, fzOk, fz, fzZ, modeAt, setTg, setSeq, asgV, putV, augD, mtTy, muts, mtMode, muD, mtD, sets, idxD, partD, isNop, wipeE, cL, boolX, intX, muX, parX, roX]
    refine cB_nil ?_
    have := go w ds.dropLast .no (by omega)
    unfold Gm at this
    simp only [List.map_dropLast] at this
    exact this
end Fd.k00
end
section
set_option maxRecDepth 100000
set_option maxHeartbeats 2000000
namespace Fd.k00
open PySem
theorem fin_j (ns ds : List Int) (cc x5 x6 x7 x8 x12 : Slot) (w : Str) (d4 D9 : D) (hr : rpok D9 = true) (e3 : F__law_told.f [.int 3, d4, .str w, .str ""] = some (.ok false D9 [])) :
    cB T_law (.cons (.ret (.cmp .Eq (.bi .repr (.cons (.call 13 (.cons (.con (.int 3)) (.cons (.var 4) (.cons (.var 11) (.cons (.con (.str "")) .nil))))) .nil)) (.bi .repr (.cons (.var 9) .nil)))) .nil)
      (Gm ns cc .no (.ro d4) x5 x6 x7 x8 (.ro D9) .no (.ro (.str w)) x12 .no ds) (Post [.sc] fun r' => r' = .ok false (.bool true) []) := by
  have r1 := rp_bi .ro D9 rfl hr
  have so := rp_so _ hr
  have hT : T_law 13 = some F__law_told := rfl
  unfold Gm
  refine cB_step ?_
  simp [hT, ms__law_told, e3, apd, flatD, pass, keeps, hit, r1, cmpD, ordK, so, truD, fzOk, fz, modeAt, retV, Post, outsE, ioIx, outD]
theorem law_j (ns ds : List Int) (cc x4 x5 x6 x7 x8 x12 : Slot) (xs : List D) (w : Str) (d4 : D) (h4 : x4 = .ro d4) (hw : w.length ≤ 1000) :
    cB T_law (.cons (.asg (.nm 9) (.con .none)) (.cons (.ite (.tor (.cmp .Gt (.bi .len (.cons (.var 11) .nil)) (.con (.int 60))) (.not_ (.bi .all (.cons (.lc e1_law [13] (.nm 13) (.var 11) (.con (.bool true))) .nil)))) (.cons (.asg (.nm 9) (.con (.str "word"))) .nil) .nil) (.cons (.ret (.cmp .Eq (.bi .repr (.cons (.call 13 (.cons (.con (.int 3)) (.cons (.var 4) (.cons (.var 11) (.cons (.con (.str "")) .nil))))) .nil)) (.bi .repr (.cons (.var 9) .nil)))) .nil)))
      (Gm ns cc .no x4 x5 x6 x7 x8 (.own false (.list xs)) .no (.ro (.str w)) x12 .no ds) (Post [.sc] fun r' => r' = .ok false (.bool true) []) := by
  subst h4
  have hz : w.length ≤ sizeLine := by rw [PySem.sizeLine_eq]; omega
  have hc : (chars w).length ≤ sizeLine := by rw [chars_len]; exact hz
  have lc := lc_mapG PyData.str (fun c => .bool (isSub c "012")) (T := T_law) (elt := e1_law) (own := [13]) (tg := .nm 13) (cond := .con (.bool true)) (Γ := Gm ns cc .no (.ro d4) x5 x6 x7 x8 (.ro .none) .no (.ro (.str w)) x12 .no ds) (k := .ro) (xs := chars w)
    (fun c _ => by simp [e1_law, Gm, -Prod.exists, apd, flatD, cmpD, ordK, keeps, truD, binD, unD, retV, Post, outsE, hit, pass, biD, itD, tgIx, ioIx, outD, fzOk, fz, fzZ, modeAt, setTg, setSeq, asgV, putV, augD, mtTy, muts, mtMode, muD, mtD, sets, idxD, partD, isNop, wipeE, cL, boolX, intX, muX, parX, roX])
  have e3 := told3 d4 w "" hz
  have g1 := fin_j ns ds cc x5 x6 x7 x8 x12 w d4 .none rp_d.1
  have g2 := fin_j ns ds cc x5 x6 x7 x8 x12 w d4 (.str "word") rp_d.2
  unfold Gm at lc g1 g2 ⊢
  refine cB_step ?_
  simp [-Prod.exists, apd, flatD, cmpD, ordK, keeps, truD, binD, unD, retV, Post, outsE, hit, pass, biD, itD, tgIx, ioIx, outD, fzOk, fz, fzZ, modeAt, setTg, setSeq, asgV, putV, augD, mtTy, muts, mtMode, muD, mtD, sets, idxD, partD, isNop, wipeE, cL, boolX, intX, muX, parX, roX]
  by_cases h1 : (60 : Int) < w.length
  · have hb : isW w 60 = false := by
      unfold isW
      rw [Bool.and_eq_false_iff]
      exact .inl (by rw [decide_eq_false_iff_not]; omega)
    rw [hb] at e3
    refine cB_step ?_
    simp [h1, hz, -Prod.exists, apd, flatD, cmpD, ordK, keeps, truD, binD, unD, retV, Post, outsE, hit, pass, biD, itD, tgIx, ioIx, outD, fzOk, fz, fzZ, modeAt, setTg, setSeq, asgV, putV, augD, mtTy, muts, mtMode, muD, mtD, sets, idxD, partD, isNop, wipeE, cL, boolX, intX, muX, parX, roX]
    refine cB_step ?_
    simp [-Prod.exists, apd, flatD, cmpD, ordK, keeps, truD, binD, unD, retV, Post, outsE, hit, pass, biD, itD, tgIx, ioIx, outD, fzOk, fz, fzZ, modeAt, setTg, setSeq, asgV, putV, augD, mtTy, muts, mtMode, muD, mtD, sets, idxD, partD, isNop, wipeE, cL, boolX, intX, muX, parX, roX]
    refine cB_nil ?_
    exact g2 e3
  · have h2 : (w.length : Int) ≤ 60 := by omega
    cases ha : (chars w).all fun c => isSub c "012"
    · have hb : isW w 60 = false := by
        unfold isW
        rw [ha, Bool.and_false]
      rw [hb] at e3
      refine cB_step ?_
      simp [h1, hz, hc, chars_map, lc, bools_map, ha, -Prod.exists, apd, flatD, cmpD, ordK, keeps, truD, binD, unD, retV, Post, outsE, hit, pass, biD, itD, tgIx, ioIx, outD, fzOk, fz, fzZ, modeAt, setTg, setSeq, asgV, putV, augD, mtTy, muts, mtMode, muD, mtD, sets, idxD, partD, isNop, wipeE, cL, boolX, intX, muX, parX, roX]
      refine cB_step ?_
      simp [-Prod.exists, apd, flatD, cmpD, ordK, keeps, truD, binD, unD, retV, Post, outsE, hit, pass, biD, itD, tgIx, ioIx, outD, fzOk, fz, fzZ, modeAt, setTg, setSeq, asgV, putV, augD, mtTy, muts, mtMode, muD, mtD, sets, idxD, partD, isNop, wipeE, cL, boolX, intX, muX, parX, roX]
      refine cB_nil ?_
      exact g2 e3
    · have hb : isW w 60 = true := by
        unfold isW
        rw [ha, Bool.and_true]
        exact decide_eq_true h2
      rw [hb] at e3
      refine cB_step ?_
      simp [h1, hz, hc, chars_map, lc, bools_map, ha, -Prod.exists, apd, flatD, cmpD, ordK, keeps, truD, binD, unD, retV, Post, outsE, hit, pass, biD, itD, tgIx, ioIx, outD, fzOk, fz, fzZ, modeAt, setTg, setSeq, asgV, putV, augD, mtTy, muts, mtMode, muD, mtD, sets, idxD, partD, isNop, wipeE, cL, boolX, intX, muX, parX, roX]
      refine cB_nil ?_
      exact g1 e3
end Fd.k00
end
section
set_option maxRecDepth 100000
set_option maxHeartbeats 2000000
namespace Fd.k00
open PySem
theorem three {os : List Int} (h : isO os = true) : ∃ a b c, os = [a, b, c] := by
  unfold isO at h
  simp only [Bool.and_eq_true, decide_eq_true_eq] at h
  match os, h.1 with
  | [a, b, c], _ => exact ⟨a, b, c, rfl⟩
theorem plain (ns : List Int) (h : ns.length ≤ 63) : F_law.f [.list (ns.map .int)] = some (.ok false (.bool true) []) := by
  refine run_is (Γ0 := [.scr ns]) (by simp [slotsOf, ints_map]) ?_
  unfold b_law
  show cB T_law _ [.scr ns, .no, .no, .no, .no, .no, .no, .no, .no, .no, .no, .no, .no, .no] _
  refine law_a ns h _ _ .pass .pass fun ds c os hc hl hb => ?_
  refine law_b ns _ _ ds c os hc hl hb fun ds os hl hb => ?_
  have hz : os.length ≤ 4 := by rcases hc with rfl | rfl | rfl <;> omega
  refine law_c ns _ _ ds c os hz fun x6 _ _ => ?_
  have hz2 : os.length ≤ sizeLine := by rw [PySem.sizeLine_eq]; omega
  refine law_d ns _ _ ds c os x6 hl hz2 ?_
  refine law_e ns _ _ ds _ _ _ _ fun x y ds hx hy => ?_
  cases ho : isO os
  · refine law_f0 ns _ _ _ ds _ _ _ _ _ ?_
    refine law_g ns _ _ ds _ _ _ _ _ _ _ rp_c (lc_bad ns ds _ _ _ _ os x y hz2 ho) ?_
    refine law_h ns _ _ ds _ _ _ _ _ _ _ fun w ds hw => ?_
    refine law_i ns _ _ ds _ _ _ _ _ _ _ w hw fun w ds x12 hw => ?_
    exact law_j ns ds _ _ _ _ _ _ _ _ w _ rfl hw
  · obtain ⟨a, b, c', rfl⟩ := three ho
    refine law_f ns _ _ ds _ _ a b c' x y hx hy ho ?_
    refine law_g ns _ _ ds _ _ _ _ _ _ _ (rp_due a b c' x y ho) (lc_good ns ds _ _ _ _ a b c' x y hx hy ho) ?_
    refine law_h ns _ _ ds _ _ _ _ _ _ _ fun w ds hw => ?_
    refine law_i ns _ _ ds _ _ _ _ _ _ _ w hw fun w ds x12 hw => ?_
    exact law_j ns ds _ _ _ _ _ _ _ _ w _ rfl hw
end Fd.k00
end
set_option maxRecDepth 100000
open PySem PySem.W PyProof.Rows
set_option maxHeartbeats 0 in
theorem PySem.Challenge.cw_foldfloor_k00_orders_and_words_holds : PySem.Challenge.rw_foldfloor_k00_orders_and_words.Holds := by
  w_on; o_law; k_head; (case hw => w_witness2)
  k_fill
  refine Fd.walk_fd (l := PySem.Challenge.rw_foldfloor_k00_orders_and_words) (n := 63) (lv := 5) (x := "script") (F := Fd.k00.F_law) rfl (by decide) rfl ⟨rfl, by decide, by decide⟩ (fun w h Y => PySem.W.kIn_of Y) ?F rfl fun ns hl => Fd.k00.plain ns hl
  case F =>
    intro w mg h KX G bs _ _
    refine' Fd.k00.gd_all (Fd.k00.tb_mk KX G ?a0 ?l0 ?c0 ?k0 ?a1 ?l1 ?c1 ?k1 ?a2 ?l2 ?c2 ?k2 ?a3 ?l3 ?c3 ?k3 ?a4 ?l4 ?c4 ?k4 ?a5 ?l5 ?c5 ?k5 ?a6 ?l6 ?c6 ?k6 ?a7 ?l7 ?c7 ?k7 ?a8 ?l8 ?c8 ?k8 ?a9 ?l9 ?c9 ?k9 ?a10 ?l10 ?c10 ?k10 ?a11 ?l11 ?c11 ?k11 ?a12 ?l12 ?c12 ?k12 ?a13 ?l13 ?c13 ?k13 ?a14 ?l14 ?c14 ?k14 ?z_GREATEST ?z_LETTERS ?z_LONGEST ?n_all ?n_bool ?n_int ?n_isinstance ?n_len ?n_range ?n_repr ?n_sum ?n_tuple ?q_BadNumber ?kp_BadNumber ?xs_BadNumber ?tp_BadNumber ?hg_BadNumber ?hk_BadNumber ?hd_BadNumber ?ha_BadNumber ?hn_BadNumber ?ht_BadNumber ?hm_BadNumber ?q_FoldError ?kp_FoldError ?xs_FoldError ?tp_FoldError ?hg_FoldError ?hk_FoldError ?hd_FoldError ?ha_FoldError ?hn_FoldError ?ht_FoldError ?hm_FoldError ?q_NotOrders ?kp_NotOrders ?xs_NotOrders ?tp_NotOrders ?hg_NotOrders ?hk_NotOrders ?hd_NotOrders ?ha_NotOrders ?hn_NotOrders ?ht_NotOrders ?hm_NotOrders ?q_NotWord ?kp_NotWord ?xs_NotWord ?tp_NotWord ?hg_NotWord ?hk_NotWord ?hd_NotWord ?ha_NotWord ?hn_NotWord ?ht_NotWord ?hm_NotWord ?y_NotOrders ?y_NotWord ?s_BadNumber_BadNumber ?s_FoldError_FoldError ?s_NotOrders_BadNumber ?s_NotOrders_FoldError ?s_NotOrders_NotOrders ?s_NotOrders_NotWord ?s_NotWord_BadNumber ?s_NotWord_FoldError ?s_NotWord_NotOrders ?s_NotWord_NotWord)
    (case a0 => k_is)
    (case l0 => k_is)
    (case c0 => k_is)
    (case k0 => k_is)
    (case a1 => k_is)
    (case l1 => k_is)
    (case c1 => k_is)
    (case k1 => k_is)
    (case a2 => k_is)
    (case l2 => k_is)
    (case c2 => k_is)
    (case k2 => k_is)
    (case a3 => k_is)
    (case l3 => k_is)
    (case c3 => k_is)
    (case k3 => k_is)
    (case a4 => k_is)
    (case l4 => k_is)
    (case c4 => k_is)
    (case k4 => k_is)
    (case a5 => k_is)
    (case l5 => k_is)
    (case c5 => k_is)
    (case k5 => k_is)
    (case a6 => k_is)
    (case l6 => k_is)
    (case c6 => k_is)
    (case k6 => k_is)
    (case a7 => k_is)
    (case l7 => k_is)
    (case c7 => k_is)
    (case k7 => k_is)
    (case a8 => k_is)
    (case l8 => k_is)
    (case c8 => k_is)
    (case k8 => k_is)
    (case a9 => k_is)
    (case l9 => k_is)
    (case c9 => k_is)
    (case k9 => k_is)
    (case a10 => k_is)
    (case l10 => k_is)
    (case c10 => k_is)
    (case k10 => k_is)
    (case a11 => k_is)
    (case l11 => k_is)
    (case c11 => k_is)
    (case k11 => k_is)
    (case a12 => k_is)
    (case l12 => k_is)
    (case c12 => k_is)
    (case k12 => k_is)
    (case a13 => k_is)
    (case l13 => k_is)
    (case c13 => k_is)
    (case k13 => k_is)
    (case a14 => k_is)
    (case l14 => k_is)
    (case c14 => k_is)
    (case k14 => k_is)
    (case z_GREATEST => k_is)
    (case z_LETTERS => k_is)
    (case z_LONGEST => k_is)
    (case n_all => k_is)
    (case n_bool => k_is)
    (case n_int => k_is)
    (case n_isinstance => k_is)
    (case n_len => k_is)
    (case n_range => k_is)
    (case n_repr => k_is)
    (case n_sum => k_is)
    (case n_tuple => k_is)
    (case q_BadNumber => k_is)
    (case kp_BadNumber => k_is)
    (case xs_BadNumber => k_is)
    (case tp_BadNumber => k_is)
    (case hg_BadNumber => k_is)
    (case hk_BadNumber => k_is)
    (case hd_BadNumber => k_is)
    (case ha_BadNumber => k_is)
    (case hn_BadNumber => k_is)
    (case ht_BadNumber => k_is)
    (case hm_BadNumber => k_is)
    (case q_FoldError => k_is)
    (case kp_FoldError => k_is)
    (case xs_FoldError => k_is)
    (case tp_FoldError => k_is)
    (case hg_FoldError => k_is)
    (case hk_FoldError => k_is)
    (case hd_FoldError => k_is)
    (case ha_FoldError => k_is)
    (case hn_FoldError => k_is)
    (case ht_FoldError => k_is)
    (case hm_FoldError => k_is)
    (case q_NotOrders => k_is)
    (case kp_NotOrders => k_is)
    (case xs_NotOrders => k_is)
    (case tp_NotOrders => k_is)
    (case hg_NotOrders => k_is)
    (case hk_NotOrders => k_is)
    (case hd_NotOrders => k_is)
    (case ha_NotOrders => k_is)
    (case hn_NotOrders => k_is)
    (case ht_NotOrders => k_is)
    (case hm_NotOrders => k_is)
    (case q_NotWord => k_is)
    (case kp_NotWord => k_is)
    (case xs_NotWord => k_is)
    (case tp_NotWord => k_is)
    (case hg_NotWord => k_is)
    (case hk_NotWord => k_is)
    (case hd_NotWord => k_is)
    (case ha_NotWord => k_is)
    (case hn_NotWord => k_is)
    (case ht_NotWord => k_is)
    (case hm_NotWord => k_is)
    (case y_NotOrders => k_exc)
    (case y_NotWord => k_exc)
    (case s_BadNumber_BadNumber => k_is)
    (case s_FoldError_FoldError => k_is)
    (case s_NotOrders_BadNumber => k_is)
    (case s_NotOrders_FoldError => k_is)
    (case s_NotOrders_NotOrders => k_is)
    (case s_NotOrders_NotWord => k_is)
    (case s_NotWord_BadNumber => k_is)
    (case s_NotWord_FoldError => k_is)
    (case s_NotWord_NotOrders => k_is)
    (case s_NotWord_NotWord => k_is)
