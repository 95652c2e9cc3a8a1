import PyProof.Rows.All
import Wide.All
import OpenK.AllK
import Wide.FinOn
import HandS.ForMost
import HandS.TupAny
import HandS.TupMul
import HandS.IsInst
import HandS.SortInts
import HandS.Flow
import PySem.Challenge.RW_tacet_k49_whole_shapes_go_on
import KE.KRevSl
import KE.GoesMore
import KE.KDictKeyed
import KE.KDictOf
import HandS.Style
set_option Elab.async false
set_option maxRecDepth 100000
set_option linter.all false
set_option maxHeartbeats 4000000
namespace Tac
open PySem L2

/-! ### data: what a value is, with the tuples below it -/
inductive D where
  | n | b (x : Bool) | i (x : Int) | t (xs : List D) | r (a : Addr)

mutual
inductive DT (H : Hp) : V → D → Prop
  | n : DT H .non .n
  | b {x : Bool} : DT H (.bl x) (.b x)
  | i {x : Int} : DT H (.int x) (.i x)
  | r {a : Addr} : DT H (.ref a) (.r a)
  | t {a : Addr} {vs : List V} {ds : List D} : H a = some (.tup vs) → DTs H vs ds → DT H (.ref a) (.t ds)
inductive DTs (H : Hp) : List V → List D → Prop
  | nil : DTs H [] []
  | cons {v : V} {d : D} {vs : List V} {ds : List D} : DT H v d → DTs H vs ds → DTs H (v :: vs) (d :: ds)
end

/-- tuples stay -/
def Tp (H H' : Hp) : Prop := ∀ a xs, H a = some (.tup xs) → H' a = some (.tup xs)
theorem Tp.refl (H : Hp) : Tp H H := fun _ _ h => h
theorem Tp.trans {H H1 H2 : Hp} (a : Tp H H1) (b : Tp H1 H2) : Tp H H2 := fun c o h => b c o (a c o h)
theorem tpOf {H H' : Hp} (e : Same H H') : Tp H H' := fun a xs h => e a _ h
theorem Tp.upd {H : Hp} {a : Addr} {o : HO} (h : ∀ xs, H a ≠ some (.tup xs)) : Tp H (upd H a o) := fun b xs e => by
  have : b ≠ a := fun q => h xs (by rw [← q]; exact e)
  rw [upd_ne this]; exact e
theorem Same.new {H : Hp} {p : Addr} {o : HO} (h : H p = Option.none) : Same H (upd H p o) := fun a u e => by
  rw [upd_ne (ne_of_none e h)]; exact e
theorem Same.mut {H H' : Hp} {p : Addr} {o : HO} (e : Same H H') (h : H p = Option.none) : Same H (upd H' p o) := fun a u ha => by
  rw [upd_ne (ne_of_none ha h)]; exact e a u ha

theorem DTs.length {H : Hp} : ∀ {vs : List V} {ds : List D}, DTs H vs ds → vs.length = ds.length
  | _, _, .nil => rfl
  | _, _, .cons _ t => congrArg (· + 1) (DTs.length t)

mutual
theorem DT.mono {H H' : Hp} (e : Tp H H') : ∀ {v : V} {d : D}, DT H v d → DT H' v d
  | _, _, .n => .n
  | _, _, .b => .b
  | _, _, .i => .i
  | _, _, .r => .r
  | _, _, .t h hs => .t (e _ _ h) (DTs.mono e hs)
theorem DTs.mono {H H' : Hp} (e : Tp H H') : ∀ {vs : List V} {ds : List D}, DTs H vs ds → DTs H' vs ds
  | _, _, .nil => .nil
  | _, _, .cons h hs => .cons (DT.mono e h) (DTs.mono e hs)
end
theorem DT.i_inv {H : Hp} {v : V} {x : Int} (h : DT H v (.i x)) : v = .int x := by cases h; rfl
theorem DT.b_inv {H : Hp} {v : V} {x : Bool} (h : DT H v (.b x)) : v = .bl x := by cases h; rfl
theorem DT.n_inv {H : Hp} {v : V} (h : DT H v .n) : v = .non := by cases h; rfl
theorem DT.r_inv {H : Hp} {v : V} {a : Addr} (h : DT H v (.r a)) : v = .ref a := by cases h; rfl
theorem DT.t_inv {H : Hp} {v : V} {ds : List D} (h : DT H v (.t ds)) : ∃ a vs, v = .ref a ∧ H a = some (.tup vs) ∧ DTs H vs ds := by
  cases h with
  | t h hs => exact ⟨_, _, rfl, h, hs⟩
theorem DTs.nil_inv {H : Hp} {vs : List V} (h : DTs H vs []) : vs = [] := by cases h; rfl
theorem DTs.cons_inv {H : Hp} {vs : List V} {d : D} {ds : List D} (h : DTs H vs (d :: ds)) : ∃ v r, vs = v :: r ∧ DT H v d ∧ DTs H r ds := by
  cases h with
  | cons h hs => exact ⟨_, _, rfl, h, hs⟩
theorem DTs.get {H : Hp} : ∀ {vs : List V} {ds : List D} {k : Nat} {d : D}, DTs H vs ds → ds[k]? = some d → ∃ v, vs[k]? = some v ∧ DT H v d
  | _, _, _, _, .nil, e => by simp at e
  | _, _, 0, _, .cons h _, e => by simp at e; subst e; exact ⟨_, rfl, h⟩
  | _, _, k + 1, _, .cons _ t, e => by
    obtain ⟨v, h1, h2⟩ := DTs.get (k := k) t (by simpa using e)
    exact ⟨v, by simpa using h1, h2⟩
theorem DTs.get' {H : Hp} {vs : List V} {ds : List D} {k : Nat} {v : V} (h : DTs H vs ds) (e : vs[k]? = some v) : ∃ d, ds[k]? = some d ∧ DT H v d := by
  have hk : k < ds.length := by rw [← h.length]; exact (List.getElem?_eq_some_iff.mp e).1
  obtain ⟨w, h1, h2⟩ := h.get (List.getElem?_eq_getElem hk)
  rw [e] at h1; cases h1
  exact ⟨_, List.getElem?_eq_getElem hk, h2⟩
theorem DTs.append {H : Hp} : ∀ {vs ws : List V} {ds es : List D}, DTs H vs ds → DTs H ws es → DTs H (vs ++ ws) (ds ++ es)
  | _, _, _, _, .nil, s => s
  | _, _, _, _, .cons r t, s => .cons r (DTs.append t s)
theorem DTs.take {H : Hp} : ∀ {vs : List V} {ds : List D} (k : Nat), DTs H vs ds → DTs H (vs.take k) (ds.take k)
  | _, _, 0, _ => by simp only [List.take_zero]; exact .nil
  | _, _, _ + 1, .nil => .nil
  | _, _, k + 1, .cons r t => .cons r (DTs.take k t)
theorem DTs.drop {H : Hp} : ∀ {vs : List V} {ds : List D} (k : Nat), DTs H vs ds → DTs H (vs.drop k) (ds.drop k)
  | _, _, 0, r => r
  | _, _, _ + 1, .nil => .nil
  | _, _, k + 1, .cons _ t => DTs.drop k t
theorem DTs.set {H : Hp} {v : V} {d : D} (r : DT H v d) : ∀ {vs : List V} {ds : List D} (k : Nat), DTs H vs ds → DTs H (vs.set k v) (ds.set k d)
  | _, _, _, .nil => .nil
  | _, _, 0, .cons _ t => .cons r t
  | _, _, k + 1, .cons q t => .cons q (DTs.set r k t)
theorem DTs.reverse {H : Hp} : ∀ {vs : List V} {ds : List D}, DTs H vs ds → DTs H vs.reverse ds.reverse
  | _, _, .nil => .nil
  | _, _, .cons r t => by
    rw [List.reverse_cons, List.reverse_cons]
    exact (DTs.reverse t).append (.cons r .nil)
theorem DTs.flat {H : Hp} {vs : List V} {ds : List D} (h : DTs H vs ds) : ∀ k : Nat, DTs H (List.replicate k vs).flatten (List.replicate k ds).flatten
  | 0 => .nil
  | k + 1 => by
    rw [List.replicate_succ, List.replicate_succ, List.flatten_cons, List.flatten_cons]
    exact h.append (DTs.flat h k)
theorem DTs.one {H : Hp} {v : V} {d : D} (h : DT H v d) : DTs H [v] [d] := .cons h .nil
theorem DTs.ints {H : Hp} : ∀ (ns : List Int), DTs H (ns.map V.int) (ns.map D.i)
  | [] => .nil
  | _ :: r => .cons .i (DTs.ints r)
theorem DTs.ints_inv {H : Hp} : ∀ {ns : List Int} {vs : List V}, DTs H vs (ns.map D.i) → vs = ns.map V.int
  | [], _, .nil => rfl
  | _ :: _, _, .cons h t => by
    cases h
    rw [DTs.ints_inv t, List.map_cons]
theorem DTs.bls_inv {H : Hp} : ∀ {ns : List Bool} {vs : List V}, DTs H vs (ns.map D.b) → vs = ns.map V.bl
  | [], _, .nil => rfl
  | _ :: _, _, .cons h t => by
    cases h
    rw [DTs.bls_inv t, List.map_cons]
theorem DTs.refs_inv {H : Hp} : ∀ {ns : List Addr} {vs : List V}, DTs H vs (ns.map D.r) → vs = ns.map V.ref
  | [], _, .nil => rfl
  | _ :: _, _, .cons h t => by
    cases h
    rw [DTs.refs_inv t, List.map_cons]
/-- a new tuple -/
theorem DT.new {H : Hp} {p : Addr} {vs : List V} {ds : List D} (hp : H p = Option.none) (h : DTs H vs ds) : DT (upd H p (.tup vs)) (.ref p) (.t ds) :=
  .t upd_same (h.mono (tpOf (Same.new hp)))

/-! ### slots -/
abbrev Ga := List (Option D)
inductive Sl (H : Hp) : St → Ga → Prop
  | nil : Sl H [] []
  | skip {o : Option V} {σ : St} {g : Ga} : Sl H σ g → Sl H (o :: σ) (none :: g)
  | cons {v : V} {d : D} {σ : St} {g : Ga} : DT H v d → Sl H σ g → Sl H (some v :: σ) (some d :: g)
theorem Sl.mono {H H' : Hp} (e : Tp H H') : ∀ {σ : St} {g : Ga}, Sl H σ g → Sl H' σ g
  | _, _, .nil => .nil
  | _, _, .skip t => .skip (Sl.mono e t)
  | _, _, .cons h t => .cons (h.mono e) (Sl.mono e t)
theorem Sl.get {H : Hp} : ∀ {σ : St} {g : Ga} {i : Nat} {d : D}, Sl H σ g → g[i]? = some (some d) → ∃ v, σ[i]? = some (some v) ∧ DT H v d
  | _, _, _, _, .nil, e => by simp at e
  | _, _, 0, _, .skip _, e => by simp at e
  | _, _, i + 1, _, .skip t, e => by
    obtain ⟨v, h1, h2⟩ := Sl.get (i := i) t (by simpa using e)
    exact ⟨v, by simpa using h1, h2⟩
  | _, _, 0, _, .cons h _, e => by simp at e; subst e; exact ⟨_, rfl, h⟩
  | _, _, i + 1, _, .cons _ t, e => by
    obtain ⟨v, h1, h2⟩ := Sl.get (i := i) t (by simpa using e)
    exact ⟨v, by simpa using h1, h2⟩
theorem Sl.set {H : Hp} {v : V} {d : D} (h : DT H v d) : ∀ {σ : St} {g : Ga} (i : Nat), Sl H σ g → Sl H (σ.set i (some v)) (g.set i (some d))
  | _, _, _, .nil => .nil
  | _, _, 0, .skip t => .cons h t
  | _, _, i + 1, .skip t => .skip (Sl.set h i t)
  | _, _, 0, .cons _ t => .cons h t
  | _, _, i + 1, .cons r t => .cons r (Sl.set h i t)
theorem Sl.setN {H : Hp} {o : Option V} : ∀ {σ : St} {g : Ga} (i : Nat), Sl H σ g → Sl H (σ.set i o) (g.set i none)
  | _, _, _, .nil => .nil
  | _, _, 0, .skip t => .skip t
  | _, _, i + 1, .skip t => .skip (Sl.setN i t)
  | _, _, 0, .cons _ t => .skip t
  | _, _, i + 1, .cons r t => .cons r (Sl.setN i t)
/-- less is known -/
theorem Sl.forget {H : Hp} {σ : St} {g : Ga} (i : Nat) (h : Sl H σ g) : Sl H σ (g.set i none) := by
  have e : σ.set i (σ[i]?.getD none) = σ := by
    by_cases hi : i < σ.length
    · rw [List.getElem?_eq_getElem hi]
      simp
    · exact List.set_eq_of_length_le (by omega)
  have := Sl.setN (o := σ[i]?.getD none) i h
  rw [e] at this
  exact this
def wipeG (g : Ga) : List Nat → Ga
  | [] => g
  | v :: vs => (wipeG g vs).set v none
theorem Sl.wipe {H : Hp} {σ : St} {g : Ga} (h : Sl H σ g) : ∀ vs : List Nat, Sl H (wipe σ vs) (wipeG g vs)
  | [] => h
  | v :: vs => Sl.setN v (Sl.wipe h vs)
def startG (N : List Str) (ds : List D) : Ga := ds.map some ++ List.replicate (N.length - ds.length) none
theorem Sl.rep {H : Hp} : ∀ k : Nat, Sl H (List.replicate k none) (List.replicate k none)
  | 0 => .nil
  | k + 1 => .skip (Sl.rep k)
theorem Sl.start {H : Hp} {N : List Str} {vs : List V} {ds : List D} (h : DTs H vs ds) : Sl H (start N vs) (startG N ds) := by
  unfold L2.start startG
  rw [h.length]
  generalize N.length - ds.length = k
  induction ds generalizing vs with
  | nil => cases h; exact Sl.rep k
  | cons d ds ih => cases h with | cons r t => exact .cons r (ih t)

/-! ### what evaluates to what -/
def Ev (te : TE) (g : Ga) (H : Hp) (d : D) : Prop := ∀ σ H1, Same H H1 → Sl H1 σ g → ∀ Q : VK, (∀ H2 v, Same H1 H2 → DT H2 v d → Q v H2) → te σ H1 Q
/-- a new list -/
def EvL (te : TE) (g : Ga) (H : Hp) (ds : List D) : Prop := ∀ σ H1, Same H H1 → Sl H1 σ g → ∀ Q : VK, (∀ H2 p vs, Same H1 H2 → H1 p = none → H2 p = some (.lst vs) → DTs H2 vs ds → Q (.ref p) H2) → te σ H1 Q
def EvT (tt : TT) (g : Ga) (H : Hp) (b : Bool) : Prop := ∀ σ H1, Same H H1 → Sl H1 σ g → ∀ Q : Bool → Hp → Prop, (∀ H2, Same H1 H2 → Q b H2) → tt σ H1 Q
def EvA (ta : TA) (g : Ga) (H : Hp) (ds : List D) : Prop := ∀ σ H1, Same H H1 → Sl H1 σ g → ∀ Q : List V → Hp → Prop, (∀ H2 vs, Same H1 H2 → DTs H2 vs ds → Q vs H2) → ta σ H1 Q
def EvO (to : TO) (g : Ga) (H : Hp) (o : Option Int) : Prop := ∀ σ H1, Same H H1 → Sl H1 σ g → ∀ Q : Option Int → Hp → Prop, (∀ H2, Same H1 H2 → Q o H2) → to σ H1 Q
/-- the heap may change; R: of the result and the heap -/
def EvM (te : TE) (g : Ga) (H : Hp) (R : D → Hp → Prop) : Prop := ∀ σ, Sl H σ g → ∀ Q : VK, (∀ H2 v d, Tp H H2 → DT H2 v d → R d H2 → Q v H2) → te σ H Q
def EvTM (tt : TT) (g : Ga) (H : Hp) (R : Bool → Hp → Prop) : Prop := ∀ σ, Sl H σ g → ∀ Q : Bool → Hp → Prop, (∀ H2 b, Tp H H2 → R b H2 → Q b H2) → tt σ H Q

section
variable {K : PySem.W.Frag} {g : Ga} {H H' : Hp} {ta tb tc te : TE} {t u : TT} {d e : D} {r r' : R2}
theorem Ev.mono (a : Same H H') (h : Ev te g H d) : Ev te g H' d := fun σ H1 e => h σ H1 (a.trans e)
theorem EvT.mono {b : Bool} (a : Same H H') (h : EvT t g H b) : EvT t g H' b := fun σ H1 e => h σ H1 (a.trans e)
theorem EvA.mono {ta : TA} {ds : List D} (a : Same H H') (h : EvA ta g H ds) : EvA ta g H' ds := fun σ H1 e => h σ H1 (a.trans e)
theorem EvL.mono {ds : List D} (a : Same H H') (h : EvL te g H ds) : EvL te g H' ds := fun σ H1 e => h σ H1 (a.trans e)
theorem Ev.m (h : Ev te g H d) : EvM te g H fun d' H2 => d' = d ∧ Same H H2 := fun σ s Q q => h σ H (Same.refl H) s Q fun H2 v e hd => q H2 v d (tpOf e) hd ⟨rfl, e⟩
theorem EvT.m {b : Bool} (h : EvT t g H b) : EvTM t g H fun b' H2 => b' = b ∧ Same H H2 := fun σ s Q q => h σ H (Same.refl H) s Q fun H2 e => q H2 b (tpOf e) ⟨rfl, e⟩
theorem EvL.m {ds : List D} (h : EvL te g H ds) : EvM te g H fun d' H2 => Same H H2 ∧ ∃ p vs, d' = .r p ∧ H p = none ∧ H2 p = some (.lst vs) ∧ DTs H2 vs ds := fun σ s Q q =>
  h σ H (Same.refl H) s Q fun H2 p vs e hp h2 hd => q H2 _ (.r p) (tpOf e) .r ⟨e, p, vs, rfl, hp, h2, hd⟩
theorem Ev.is (h : Ev te g H d) (q : d = e) : Ev te g H e := by rw [← q]; exact h
theorem EvT.is {a b : Bool} (h : EvT t g H a) (q : a = b) : EvT t g H b := by rw [← q]; exact h

theorem e_var {i : Nat} (h : g[i]? = some (some d)) : Ev (tVar i) g H d := fun σ H1 _ s Q q => by
  obtain ⟨v, h1, h2⟩ := s.get h
  exact ⟨v, h1, q H1 v (Same.refl _) h2⟩
theorem e_c {v : V} (h : ∀ H, DT H v d) : Ev (tC v) g H d := fun σ H1 _ s Q q => q H1 v (Same.refl _) (h _)
theorem e_int {x : Int} : Ev (tC (.int x)) g H (.i x) := e_c fun _ => .i
theorem e_bl {x : Bool} : Ev (tC (.bl x)) g H (.b x) := e_c fun _ => .b
theorem e_non : Ev (tC .non) g H .n := e_c fun _ => .n
/-- two operands -/
theorem e_op2 {x y : D} (ha : Ev ta g H x) (hb : Ev tb g H y) (hr : ∀ H1 v w, Same H H1 → DT H1 v x → DT H1 w y → ∀ Q : VK, (∀ H2 z, Same H1 H2 → DT H2 z d → Q z H2) → r v w H1 Q) : Ev (tOp r ta tb) g H d := fun σ H1 e s Q q =>
  ha σ H1 e s _ fun H2 v e2 hv => hb σ H2 (e.trans e2) (s.mono (tpOf e2)) _ fun H3 w e3 hw => hr H3 v w ((e.trans e2).trans e3) (hv.mono (tpOf e3)) hw Q fun H4 z e4 hz => q H4 z ((e2.trans e3).trans e4) hz
theorem e_I0 {f : Int → Int → V} {i j : Int} (hf : ∀ H, DT H (f i j) d) (ha : Ev ta g H (.i i)) (hb : Ev tb g H (.i j)) : Ev (tOp (rI0 f) ta tb) g H d :=
  e_op2 ha hb fun H1 v w _ hv hw Q q => ⟨i, j, hv.i_inv, hw.i_inv, q H1 _ (Same.refl _) (hf _)⟩
theorem e_I {C : Int → Int → Prop} {f : Int → Int → V} {i j : Int} (hc : C i j) (hf : ∀ H, DT H (f i j) d) (ha : Ev ta g H (.i i)) (hb : Ev tb g H (.i j)) : Ev (tOp (rI C f) ta tb) g H d :=
  e_op2 ha hb fun H1 v w _ hv hw Q q => ⟨i, j, hv.i_inv, hw.i_inv, hc, q H1 _ (Same.refl _) (hf _)⟩
theorem e_add {i j : Int} (ha : Ev ta g H (.i i)) (hb : Ev tb g H (.i j)) : Ev (tOp (rI0 fun i j => .int (i + j)) ta tb) g H (.i (i + j)) := e_I0 (fun _ => .i) ha hb
theorem e_sub {i j : Int} (ha : Ev ta g H (.i i)) (hb : Ev tb g H (.i j)) : Ev (tOp (rI0 fun i j => .int (i - j)) ta tb) g H (.i (i - j)) := e_I0 (fun _ => .i) ha hb
theorem e_mul {i j : Int} (hc : CMul i j) (ha : Ev ta g H (.i i)) (hb : Ev tb g H (.i j)) : Ev (tOp (rI CMul fun i j => .int (i * j)) ta tb) g H (.i (i * j)) := e_I hc (fun _ => .i) ha hb
theorem e_mod {i j : Int} (hc : 0 < j) (ha : Ev ta g H (.i i)) (hb : Ev tb g H (.i j)) : Ev (tOp (rI (fun _ j => 0 < j) fun i j => .int (i % j)) ta tb) g H (.i (i % j)) := e_I hc (fun _ => .i) ha hb
theorem e_fdiv {i j : Int} (hc : CDiv i j) (ha : Ev ta g H (.i i)) (hb : Ev tb g H (.i j)) : Ev (tOp (rI CDiv fun i j => .int (i / j)) ta tb) g H (.i (i / j)) := e_I hc (fun _ => .i) ha hb
theorem e_neg {i : Int} (ha : Ev ta g H (.i i)) : Ev (tUn (rU fun i => .int (-i)) ta) g H (.i (-i)) := fun σ H1 e s Q q =>
  ha σ H1 e s _ fun H2 v e2 hv => ⟨i, hv.i_inv, q H2 _ e2 .i⟩
theorem e_lt {i j : Int} (ha : Ev ta g H (.i i)) (hb : Ev tb g H (.i j)) : Ev (tOp (rI0 fun i j => .bl (decide (i < j))) ta tb) g H (.b (decide (i < j))) := e_I0 (fun _ => .b) ha hb
theorem e_le {i j : Int} (ha : Ev ta g H (.i i)) (hb : Ev tb g H (.i j)) : Ev (tOp (rI0 fun i j => .bl (decide (i ≤ j))) ta tb) g H (.b (decide (i ≤ j))) := e_I0 (fun _ => .b) ha hb
theorem e_gt {i j : Int} (ha : Ev ta g H (.i i)) (hb : Ev tb g H (.i j)) : Ev (tOp (rI0 fun i j => .bl (decide (j < i))) ta tb) g H (.b (decide (j < i))) := e_I0 (fun _ => .b) ha hb
theorem e_ge {i j : Int} (ha : Ev ta g H (.i i)) (hb : Ev tb g H (.i j)) : Ev (tOp (rI0 fun i j => .bl (decide (j ≤ i))) ta tb) g H (.b (decide (j ≤ i))) := e_I0 (fun _ => .b) ha hb
theorem e_eqI {i j : Int} (ha : Ev ta g H (.i i)) (hb : Ev tb g H (.i j)) : Ev (tOp rEq ta tb) g H (.b (decide (i = j))) :=
  e_op2 ha hb fun H1 v w _ hv hw Q q => by
    cases hv.i_inv; cases hw.i_inv
    refine ⟨rfl, q H1 _ (Same.refl _) ?_⟩
    rw [show decide (V.int i = V.int j) = decide (i = j) by by_cases h : i = j <;> simp [h]]
    exact .b
theorem e_neI {i j : Int} (ha : Ev ta g H (.i i)) (hb : Ev tb g H (.i j)) : Ev (tOp rNe ta tb) g H (.b (!decide (i = j))) :=
  e_op2 ha hb fun H1 v w _ hv hw Q q => by
    cases hv.i_inv; cases hw.i_inv
    refine ⟨rfl, q H1 _ (Same.refl _) ?_⟩
    rw [show decide (V.int i = V.int j) = decide (i = j) by by_cases h : i = j <;> simp [h]]
    exact .b
theorem e_eqB {i j : Bool} (ha : Ev ta g H (.b i)) (hb : Ev tb g H (.b j)) : Ev (tOp rEq ta tb) g H (.b (decide (i = j))) :=
  e_op2 ha hb fun H1 v w _ hv hw Q q => by
    cases hv.b_inv; cases hw.b_inv
    refine ⟨rfl, q H1 _ (Same.refl _) ?_⟩
    rw [show decide (V.bl i = V.bl j) = decide (i = j) by by_cases h : i = j <;> simp [h]]
    exact .b
def isN : D → Bool
  | .n => true
  | _ => false
theorem DT.isN {H : Hp} {v : V} {d : D} (h : DT H v d) : decide (v = .non) = isN d := by cases h <;> simp [Tac.isN]
theorem e_isN (ha : Ev ta g H d) : Ev (tOp (fun x y H Q => y = .non ∧ Q (.bl (decide (x = .non))) H) ta (tC .non)) g H (.b (isN d)) :=
  e_op2 ha e_non fun H1 v w _ hv hw Q q => ⟨hw.n_inv, q H1 _ (Same.refl _) (by rw [hv.isN]; exact .b)⟩
theorem e_notN (ha : Ev ta g H d) : Ev (tOp (fun x y H Q => y = .non ∧ Q (.bl (!decide (x = .non))) H) ta (tC .non)) g H (.b (!isN d)) :=
  e_op2 ha e_non fun H1 v w _ hv hw Q q => ⟨hw.n_inv, q H1 _ (Same.refl _) (by rw [hv.isN]; exact .b)⟩
theorem e_chain {i j l : Int} {f f' : Int → Int → Bool} (ha : Ev ta g H (.i i)) (hb : Ev tb g H (.i j)) (hc : f i j = true → Ev tc g H (.i l)) :
    Ev (tChain (rI0 fun i j => .bl (f i j)) (rI0 fun i j => .bl (f' i j)) ta tb tc) g H (.b (f i j && f' j l)) := fun σ H1 e s Q q =>
  ha σ H1 e s _ fun H2 v e2 hv => hb σ H2 (e.trans e2) (s.mono (tpOf e2)) _ fun H3 w e3 hw => ⟨i, j, (hv.mono (tpOf e3)).i_inv, hw.i_inv, f i j, rfl, by
    cases hf : f i j with
    | false =>
      refine iteF (q H3 _ (e2.trans e3) ?_)
      rw [hf]; exact .b
    | true =>
      refine iteT (hc hf σ H3 ((e.trans e2).trans e3) (s.mono (tpOf (e2.trans e3))) _ fun H4 z e4 hz => ⟨j, l, (hw.mono (tpOf e4)).i_inv, hz.i_inv, q H4 _ ((e2.trans e3).trans e4) ?_⟩)
      rw [hf]; exact .b⟩

/-! ### tests -/
theorem t_test {b : Bool} (h : Ev te g H (.b b)) : EvT (tTest te) g H b := fun σ H1 e s Q q => h σ H1 e s _ fun H2 v e2 hv => ⟨b, hv.b_inv, q H2 e2⟩
theorem t_B {b : Bool} (h : Ev te g H (.b b)) : EvT (tB te) g H b := fun σ H1 e s Q q => h σ H1 e s _ fun H2 v e2 hv => ⟨b, hv.b_inv, q H2 e2⟩
theorem t_and {a b : Bool} (h1 : EvT t g H a) (h2 : a = true → EvT u g H b) : EvT (tAnd t u) g H (a && b) := fun σ H1 e s Q q => h1 σ H1 e s _ fun H2 e2 => by
  cases a with
  | true => exact iteT (h2 rfl σ H2 (e.trans e2) (s.mono (tpOf e2)) Q fun H3 e3 => q H3 (e2.trans e3))
  | false => exact iteF (q H2 e2)
theorem t_or {a b : Bool} (h1 : EvT t g H a) (h2 : a = false → EvT u g H b) : EvT (tOr t u) g H (a || b) := fun σ H1 e s Q q => h1 σ H1 e s _ fun H2 e2 => by
  cases a with
  | false => exact iteF (h2 rfl σ H2 (e.trans e2) (s.mono (tpOf e2)) Q fun H3 e3 => q H3 (e2.trans e3))
  | true => exact iteT (q H2 e2)
theorem t_not {a : Bool} (h1 : EvT t g H a) : EvT (tNot t) g H (!a) := fun σ H1 e s Q q => h1 σ H1 e s _ fun H2 e2 => q H2 e2
theorem t_yes : EvT tYes g H true := fun σ H1 e s Q q => q H1 (Same.refl _)
theorem e_andV {a b : Bool} (h1 : Ev ta g H (.b a)) (h2 : a = true → Ev tb g H (.b b)) : Ev (tAndV ta tb) g H (.b (a && b)) := fun σ H1 e s Q q => h1 σ H1 e s _ fun H2 v e2 hv => ⟨a, hv.b_inv, by
  cases a with
  | true => exact iteT (h2 rfl σ H2 (e.trans e2) (s.mono (tpOf e2)) Q fun H3 z e3 hz => q H3 z (e2.trans e3) hz)
  | false => exact iteF (q H2 _ e2 .b)⟩
theorem e_orV {a b : Bool} (h1 : Ev ta g H (.b a)) (h2 : a = false → Ev tb g H (.b b)) : Ev (tOrV ta tb) g H (.b (a || b)) := fun σ H1 e s Q q => h1 σ H1 e s _ fun H2 v e2 hv => ⟨a, hv.b_inv, by
  cases a with
  | false => exact iteF (h2 rfl σ H2 (e.trans e2) (s.mono (tpOf e2)) Q fun H3 z e3 hz => q H3 z (e2.trans e3) hz)
  | true => exact iteT (q H2 _ e2 .b)⟩
theorem e_notV {a : Bool} (h1 : Ev ta g H (.b a)) : Ev (tNotV ta) g H (.b (!a)) := fun σ H1 e s Q q => h1 σ H1 e s _ fun H2 v e2 hv => ⟨a, hv.b_inv, q H2 _ e2 .b⟩
theorem e_if {b : Bool} (h : EvT t g H b) (h1 : b = true → Ev ta g H d) (h2 : b = false → Ev tb g H d) : Ev (tIf t ta tb) g H d := fun σ H1 e s Q q => h σ H1 e s _ fun H2 e2 => by
  cases b with
  | true => exact iteT (h1 rfl σ H2 (e.trans e2) (s.mono (tpOf e2)) Q fun H3 z e3 hz => q H3 z (e2.trans e3) hz)
  | false => exact iteF (h2 rfl σ H2 (e.trans e2) (s.mono (tpOf e2)) Q fun H3 z e3 hz => q H3 z (e2.trans e3) hz)

/-! ### argument lists, tuples, lists -/
theorem a_nil : EvA tNil g H [] := fun σ H1 e s Q q => q H1 [] (Same.refl _) .nil
theorem a_cons {tr : TA} {ds : List D} (h : Ev ta g H d) (hr : EvA tr g H ds) : EvA (tCons ta tr) g H (d :: ds) := fun σ H1 e s Q q =>
  h σ H1 e s _ fun H2 v e2 hv => hr σ H2 (e.trans e2) (s.mono (tpOf e2)) _ fun H3 vs e3 hs => q H3 (v :: vs) (e2.trans e3) (.cons (hv.mono (tpOf e3)) hs)
theorem e_tup {ta : TA} {ds : List D} (h : EvA ta g H ds) (hl : ds.length ≤ sizeLine) : Ev (tTup ta) g H (.t ds) := fun σ H1 e s Q q =>
  h σ H1 e s _ fun H2 vs e2 hs => ⟨by rw [hs.length]; exact hl, fun p hp => q _ _ (e2.trans (Same.new hp)) (DT.new hp hs)⟩
theorem l_lst {ta : TA} {ds : List D} (h : EvA ta g H ds) (hl : ds.length ≤ sizeLine) : EvL (tLst ta) g H ds := fun σ H1 e s Q q =>
  h σ H1 e s _ fun H2 vs e2 hs => ⟨by rw [hs.length]; exact hl, fun p hp => q _ p vs (e2.trans (Same.new hp)) (e2.free hp) upd_same (hs.mono (tpOf (Same.new hp)))⟩
theorem atI_map {α β : Type} {f : α → β} {xs : List α} {i : Int} {x : α} (h : atI xs i = some x) : atI (xs.map f) i = some (f x) := by
  obtain ⟨j, h1, h2⟩ := Option.bind_eq_some_iff.mp h
  unfold atI
  rw [List.length_map, h1]
  show (xs.map f)[j]? = _
  rw [List.getElem?_map, h2]
  rfl
theorem DTs.atI {vs : List V} {ds : List D} {i : Int} (h : DTs H vs ds) (e : atI ds i = some d) : ∃ v, L2.atI vs i = some v ∧ DT H v d := by
  obtain ⟨j, h1, h2⟩ := Option.bind_eq_some_iff.mp e
  obtain ⟨v, h3, h4⟩ := h.get h2
  refine ⟨v, ?_, h4⟩
  unfold L2.atI
  rw [h.length, h1]
  exact h3
/-- t[i] -/
theorem e_ixT {ds : List D} {i : Int} (hx : atI ds i = some d) (ha : Ev ta g H (.t ds)) (hb : Ev tb g H (.i i)) : Ev (tOp (rIxT K) ta tb) g H d :=
  e_op2 ha hb fun H1 v w _ hv hw Q q => by
    obtain ⟨a, vs, rfl, h1, h2⟩ := hv.t_inv
    obtain ⟨z, h3, h4⟩ := h2.atI hx
    exact ⟨a, vs, i, z, rfl, hw.i_inv, SqT.of h1, h3, q H1 z (Same.refl _) h4⟩
/-- a list that stands -/
def LsD (H : Hp) (l : Addr) (ds : List D) : Prop := ∃ vs, H l = some (.lst vs) ∧ DTs H vs ds
theorem LsD.mono {l : Addr} {ds : List D} (h : LsD H l ds) (e : Same H H') : LsD H' l ds := let ⟨vs, h1, h2⟩ := h; ⟨vs, e _ _ h1, h2.mono (tpOf e)⟩
theorem e_ixL {l : Addr} {ds : List D} {i : Int} (hl : LsD H l ds) (hx : atI ds i = some d) (ha : Ev ta g H (.r l)) (hb : Ev tb g H (.i i)) : Ev (tOp (rIxL K) ta tb) g H d :=
  e_op2 ha hb fun H1 v w e1 hv hw Q q => by
    obtain ⟨vs, h1, h2⟩ := hl.mono e1
    obtain ⟨z, h3, h4⟩ := h2.atI hx
    exact ⟨l, vs, i, z, hv.r_inv, hw.i_inv, SqL.of h1, h3, q H1 z (Same.refl _) h4⟩
/-- index of a new list -/
theorem e_ixN {ds : List D} {i : Int} (hx : atI ds i = some d) (ha : EvL ta g H ds) (hb : Ev tb g H (.i i)) : Ev (tOp (rIxL K) ta tb) g H d := fun σ H1 e s Q q =>
  ha σ H1 e s _ fun H2 p vs e2 _ h2 hd => hb σ H2 (e.trans e2) (s.mono (tpOf e2)) _ fun H3 w e3 hw => by
    obtain ⟨z, h3, h4⟩ := (hd.mono (tpOf e3)).atI hx
    exact ⟨p, vs, i, z, rfl, hw.i_inv, SqL.of (e3 _ _ h2), h3, q H3 z (e2.trans e3) h4⟩
theorem o_none : EvO tNoPart g H none := fun σ H1 e s Q q => q H1 (Same.refl _)
theorem o_some {i : Int} (h : Ev te g H (.i i)) : EvO (tPart te) g H (some i) := fun σ H1 e s Q q => h σ H1 e s _ fun H2 v e2 hv => ⟨i, hv.i_inv, q H2 e2⟩
def cutD {α : Type} (xs : List α) (lo hi : Option Int) : List α := (xs.drop (HT.sIx xs.length 0 lo)).take (HT.sIx xs.length xs.length hi - HT.sIx xs.length 0 lo)
theorem cutD_map {α β : Type} (f : α → β) (xs : List α) (lo hi : Option Int) : cutD (xs.map f) lo hi = (cutD xs lo hi).map f := by
  unfold cutD; rw [List.length_map, List.map_take, List.map_drop]
theorem cutD_length {α : Type} (xs : List α) (lo hi : Option Int) : (cutD xs lo hi).length ≤ xs.length := by
  unfold cutD; rw [List.length_take, List.length_drop]; omega
theorem DTs.cut {vs : List V} {ds : List D} (h : DTs H vs ds) (lo hi : Option Int) : DTs H (cutV vs lo hi) (cutD ds lo hi) := by
  unfold cutV cutD
  rw [h.length]
  exact (h.drop _).take _
theorem cutD_whole {α : Type} {xs : List α} {lo hi : Option Int} (h : HT.sIx xs.length 0 lo = 0 ∧ HT.sIx xs.length xs.length hi = xs.length) : cutD xs lo hi = xs := by
  unfold cutD; rw [h.1, h.2]; simp
/-- t[lo:hi] -/
theorem e_slT {tl th : TO} {ds : List D} {lo hi : Option Int} (ha : Ev ta g H (.t ds)) (hl : EvO tl g H lo) (hh : EvO th g H hi) : Ev (tSl (rSlA K) ta tl th) g H (.t (cutD ds lo hi)) := fun σ H1 e s Q q =>
  ha σ H1 e s _ fun H2 v e2 hv => hl σ H2 (e.trans e2) (s.mono (tpOf e2)) _ fun H3 e3 => hh σ H3 ((e.trans e2).trans e3) (s.mono (tpOf (e2.trans e3))) _ fun H4 e4 => by
    obtain ⟨a, vs, rfl, h1, h2⟩ := (hv.mono (tpOf (e3.trans e4))).t_inv
    refine ⟨a, vs, rfl, SqT.of h1, fun hw => ?_, fun hw p hp => ?_⟩
    · rw [h2.length] at hw
      rw [cutD_whole hw] at q
      exact q H4 _ ((e2.trans e3).trans e4) (.t h1 h2)
    · exact q _ _ (((e2.trans e3).trans e4).trans (Same.new hp)) (DT.new hp (h2.cut lo hi))
/-- xs[lo:hi] of a list -/
theorem l_slL {tl th : TO} {l : Addr} {ds : List D} {lo hi : Option Int} (hls : LsD H l ds) (ha : Ev ta g H (.r l)) (hl : EvO tl g H lo) (hh : EvO th g H hi) : EvL (tSl (rSlL K) ta tl th) g H (cutD ds lo hi) := fun σ H1 e s Q q =>
  ha σ H1 e s _ fun H2 v e2 hv => hl σ H2 (e.trans e2) (s.mono (tpOf e2)) _ fun H3 e3 => hh σ H3 ((e.trans e2).trans e3) (s.mono (tpOf (e2.trans e3))) _ fun H4 e4 => by
    cases hv.r_inv
    have e5 := (e2.trans e3).trans e4
    obtain ⟨vs, h1, h2⟩ := (hls.mono e).mono e5
    exact ⟨l, vs, rfl, SqL.of h1, fun p hp => q _ p _ (e5.trans (Same.new hp)) (e5.free hp) upd_same ((h2.cut lo hi).mono (tpOf (Same.new hp)))⟩
/-- t + u -/
theorem e_cat {ds es : List D} (hz : ds.length + es.length ≤ sizeLine) (ha : Ev ta g H (.t ds)) (hb : Ev tb g H (.t es)) : Ev (tOp (rCatA K) ta tb) g H (.t (ds ++ es)) :=
  e_op2 ha hb fun H1 v w _ hv hw Q q => by
    obtain ⟨a, vs, rfl, h1, h2⟩ := hv.t_inv
    obtain ⟨c, ws, rfl, h3, h4⟩ := hw.t_inv
    refine ⟨a, c, vs, ws, rfl, rfl, SqT.of h1, SqT.of h3, by rw [h2.length, h4.length]; exact hz, fun hx => ?_, fun _ hy => ?_, fun _ _ p hp => q _ _ (Same.new hp) (DT.new hp (h2.append h4))⟩
    · subst hx
      cases h2
      exact q H1 _ (Same.refl _) (.t h3 h4)
    · subst hy
      cases h4
      rw [List.append_nil] at q
      exact q H1 _ (Same.refl _) (.t h1 h2)
/-! ### calls of built-ins by values -/
theorem e_cb {rr : List V → Hp → VK → Prop} {ta : TA} {ds : List D} (ha : EvA ta g H ds) (hr : ∀ H1 vs, Same H H1 → DTs H1 vs ds → ∀ Q : VK, (∀ H2 z, Same H1 H2 → DT H2 z d → Q z H2) → rr vs H1 Q) : Ev (tCB rr ta) g H d := fun σ H1 e s Q q =>
  ha σ H1 e s _ fun H2 vs e2 hs => hr H2 vs (e.trans e2) hs Q fun H3 z e3 hz => q H3 z (e2.trans e3) hz
def rLenS (K : PySem.W.Frag) : List V → Hp → VK → Prop := fun xs H Q => ∃ p ys, xs = [.ref p] ∧ (SqL K H p ys ∨ SqT K H p ys) ∧ Q (.int ys.length) H
theorem e_lenT {ds : List D} (ha : Ev ta g H (.t ds)) : Ev (tCB (rLenS K) (tCons ta tNil)) g H (.i (ds.length : Int)) := e_cb (a_cons ha a_nil) fun H1 vs _ hs Q q => by
  obtain ⟨v, r, rfl, h1, h2⟩ := hs.cons_inv
  cases h2.nil_inv
  obtain ⟨a, ws, rfl, h3, h4⟩ := h1.t_inv
  refine ⟨a, ws, rfl, .inr (SqT.of h3), q H1 _ (Same.refl _) ?_⟩
  rw [h4.length]; exact .i
theorem e_lenL {l : Addr} {ds : List D} (hl : LsD H l ds) (ha : Ev ta g H (.r l)) : Ev (tCB (rLenS K) (tCons ta tNil)) g H (.i (ds.length : Int)) := e_cb (a_cons ha a_nil) fun H1 vs e1 hs Q q => by
  obtain ⟨v, r, rfl, h1, h2⟩ := hs.cons_inv
  cases h2.nil_inv
  cases h1.r_inv
  obtain ⟨ws, h3, h4⟩ := hl.mono e1
  refine ⟨l, ws, rfl, .inl (SqL.of h3), q H1 _ (Same.refl _) ?_⟩
  rw [h4.length]; exact .i
theorem e_lenN {ds : List D} (ha : EvL ta g H ds) : Ev (tCB (rLenS K) (tCons ta tNil)) g H (.i (ds.length : Int)) := fun σ H1 e s Q q =>
  ha σ H1 e s _ fun H2 p vs e2 _ h2 hd => ⟨p, vs, rfl, .inl (SqL.of h2), q H2 _ e2 (by rw [hd.length]; exact .i)⟩
def rTupOf (K : PySem.W.Frag) : List V → Hp → VK → Prop := fun xs H Q => ∃ p ys, xs = [.ref p] ∧ ((SqL K H p ys ∧ ∀ l, H l = none → Q (.ref l) (upd H l (.tup ys))) ∨ (SqT K H p ys ∧ Q (.ref p) H))
/-- tuple(a new list) -/
theorem e_tupN {ds : List D} (ha : EvL ta g H ds) : Ev (tCB (rTupOf K) (tCons ta tNil)) g H (.t ds) := fun σ H1 e s Q q =>
  ha σ H1 e s _ fun H2 p vs e2 _ h2 hd => ⟨p, vs, rfl, .inl ⟨SqL.of h2, fun l hl => q _ _ (e2.trans (Same.new hl)) (DT.new hl hd)⟩⟩
theorem e_tupL {l : Addr} {ds : List D} (hls : LsD H l ds) (ha : Ev ta g H (.r l)) : Ev (tCB (rTupOf K) (tCons ta tNil)) g H (.t ds) := fun σ H1 e s Q q =>
  ha σ H1 e s _ fun H2 v e2 hv => by
    cases hv.r_inv
    obtain ⟨vs, h1, h2⟩ := (hls.mono e).mono e2
    exact ⟨l, vs, rfl, .inl ⟨SqL.of h1, fun p hp => q _ _ (e2.trans (Same.new hp)) (DT.new hp h2)⟩⟩
def rLstOf (K : PySem.W.Frag) : List V → Hp → VK → Prop := fun xs H Q => ∃ p ys, xs = [.ref p] ∧ (SqL K H p ys ∨ SqT K H p ys) ∧ ∀ l, H l = none → Q (.ref l) (upd H l (.lst ys))
theorem l_listT {ds : List D} (ha : Ev ta g H (.t ds)) : EvL (tCB (rLstOf K) (tCons ta tNil)) g H ds := fun σ H1 e s Q q =>
  ha σ H1 e s _ fun H2 v e2 hv => by
    obtain ⟨a, vs, rfl, h1, h2⟩ := hv.t_inv
    exact ⟨a, vs, rfl, .inr (SqT.of h1), fun l hl => q _ l vs (e2.trans (Same.new hl)) (e2.free hl) upd_same (h2.mono (tpOf (Same.new hl)))⟩
def rMax2 : List V → Hp → VK → Prop := fun xs H Q => ∃ i j, xs = [.int i, .int j] ∧ Q (.int (if j > i then j else i)) H
def rMin2 : List V → Hp → VK → Prop := fun xs H Q => ∃ i j, xs = [.int i, .int j] ∧ Q (.int (if j < i then j else i)) H
theorem e_max {i j : Int} (ha : Ev ta g H (.i i)) (hb : Ev tb g H (.i j)) : Ev (tCB rMax2 (tCons ta (tCons tb tNil))) g H (.i (if j > i then j else i)) := e_cb (a_cons ha (a_cons hb a_nil)) fun H1 vs _ hs Q q => by
  obtain ⟨v, r, rfl, h1, h2⟩ := hs.cons_inv
  obtain ⟨w, r, rfl, h3, h4⟩ := h2.cons_inv
  cases h4.nil_inv; cases h1.i_inv; cases h3.i_inv
  exact ⟨i, j, rfl, q H1 _ (Same.refl _) .i⟩
theorem e_min {i j : Int} (ha : Ev ta g H (.i i)) (hb : Ev tb g H (.i j)) : Ev (tCB rMin2 (tCons ta (tCons tb tNil))) g H (.i (if j < i then j else i)) := e_cb (a_cons ha (a_cons hb a_nil)) fun H1 vs _ hs Q q => by
  obtain ⟨v, r, rfl, h1, h2⟩ := hs.cons_inv
  obtain ⟨w, r, rfl, h3, h4⟩ := h2.cons_inv
  cases h4.nil_inv; cases h1.i_inv; cases h3.i_inv
  exact ⟨i, j, rfl, q H1 _ (Same.refl _) .i⟩
/-! ### a call of a def -/
theorem e_call {sp : Sp} {E : XK} {ta : TA} {ds : List D} (ha : EvA ta g H ds) (hr : ∀ H1 vs, Same H H1 → DTs H1 vs ds → ∀ Q : VK, (∀ H2 z, Same H1 H2 → DT H2 z d → Q z H2) → sp vs H1 Q E) : Ev (tCall sp [] E ta) g H d := fun σ H1 e s Q q =>
  ha σ H1 e s _ fun H2 vs e2 hs => by
    rw [List.append_nil]
    exact hr H2 vs (e.trans e2) hs Q fun H3 z e3 hz => q H3 z (e2.trans e3) hz
theorem m_call {sp : Sp} {E : XK} {ta : TA} {ds : List D} {R : D → Hp → Prop} (ha : EvA ta g H ds) (hr : ∀ H1 vs, Same H H1 → DTs H1 vs ds → ∀ Q : VK, (∀ H2 z d, Tp H1 H2 → DT H2 z d → R d H2 → Q z H2) → sp vs H1 Q E) : EvM (tCall sp [] E ta) g H R := fun σ s Q q =>
  ha σ H (Same.refl _) s _ fun H2 vs e2 hs => by
    rw [List.append_nil]
    exact hr H2 vs e2 hs Q fun H3 z d e3 hz hR => q H3 z d ((tpOf e2).trans e3) hz hR
theorem l_call {sp : Sp} {E : XK} {ta : TA} {ds es : List D} (ha : EvA ta g H ds) (hr : ∀ H1 vs, Same H H1 → DTs H1 vs ds → ∀ Q : VK, (∀ H2 p ws, Same H1 H2 → H1 p = none → H2 p = some (.lst ws) → DTs H2 ws es → Q (.ref p) H2) → sp vs H1 Q E) : EvL (tCall sp [] E ta) g H es := fun σ H1 e s Q q =>
  ha σ H1 e s _ fun H2 vs e2 hs => by
    rw [List.append_nil]
    exact hr H2 vs (e.trans e2) hs Q fun H3 p ws e3 hp h3 hz => q H3 p ws (e2.trans e3) (e2.free hp) h3 hz
end
end Tac

namespace Tac
/-! The mirror: what the program computes, as plain Lean functions. -/
abbrev Rule := Int × Int × Int
abbrev Mach := List (List Rule)
structure Shp where
  flip : Bool
  st : Int
  words : List (List Int)
  reps : List (List Int)
  first : Int

def mget (m : List (Int × Int)) (k : Int) : Option Int := (m.find? fun p => decide (p.1 = k)).map (·.2)
def mput (m : List (Int × Int)) (k v : Int) : List (Int × Int) :=
  if (m.any fun p => decide (p.1 = k)) = true then m.map (fun p => if p.1 = k then (p.1, v) else p) else m ++ [(k, v)]

def ruleOf (m : Mach) (s x : Int) : Rule := (m.getD s.toNat []).getD x.toNat (0, 1, -1)
structure MachOk (m : Mach) (B : Nat) : Prop where
  n1 : 1 ≤ m.length
  n4 : m.length ≤ 4
  b2 : 2 ≤ B
  b4 : B ≤ 4
  row : ∀ row ∈ m, row.length = B
  rule : ∀ row ∈ m, ∀ r ∈ row, 0 ≤ r.1 ∧ r.1 < B ∧ (r.2.1 = 1 ∨ r.2.1 = -1) ∧ -1 ≤ r.2.2 ∧ r.2.2 < m.length
def mirr (m : Mach) : Mach := m.map fun row => row.map fun r => (r.1, -r.2.1, r.2.2)
def sidedM (m : Mach) (f : Bool) : Mach := if f = true then mirr m else m

/-! ### a run -/
structure Rn where
  tape : List (Int × Int)
  place : Int
  state : Int
  steps : Int
def rn0 : Rn := ⟨[], 0, 0, 0⟩
def Rn.sym (r : Rn) : Int := (mget r.tape r.place).getD 0
def Rn.step (m : Mach) (r : Rn) : Rn :=
  let u := ruleOf m r.state r.sym
  ⟨mput r.tape r.place u.1, r.place + u.2.1, u.2.2, r.steps + 1⟩
def Rn.run (m : Mach) : Nat → Rn → Rn
  | 0, r => r
  | n + 1, r => if r.state = -1 then r else Rn.run m n (r.step m)
def minL : Int → List Int → Int
  | a, [] => a
  | a, b :: r => minL (if b < a then b else a) r
def maxL : Int → List Int → Int
  | a, [] => a
  | a, b :: r => maxL (if a < b then b else a) r
/-- the places that are not blank, in the dict's order -/
def Rn.nz (r : Rn) : List Int := (r.tape.map (·.1)).filter fun p => decide ((mget r.tape p).getD 0 ≠ 0)
def Rn.cells (r : Rn) : Int × List Int :=
  match r.nz with
  | [] => (0, [])
  | a :: rest => (minL a rest, (List.range (maxL a rest + 1 - minL a rest).toNat).map fun (k : Nat) => (mget r.tape (minL a rest + (k : Int))).getD 0)
def tailW (row : Int × List Int) (start : Int) : List Int :=
  if start ≥ row.1 then row.2.drop (start - row.1).toNat else if row.2 = [] then [] else List.replicate (row.1 - start).toNat 0 ++ row.2

/-! ### shapes -/
def rep (k : Nat) (w : List Int) : List Int := (List.replicate k w).flatten
def tapeGo (n : Int) : List (List Int) → List (List Int) → List Int
  | r :: rs, w :: ws => rep n.toNat r ++ w ++ tapeGo n rs ws
  | _, _ => []
def tapeOf (sh : Shp) (n : Int) : List Int := sh.words.headD [] ++ tapeGo n sh.reps sh.words.tail
def bare : List Int → List Int
  | [] => []
  | x :: xs => if x = 0 then bare xs else x :: xs

inductive Itm where
  | s (x : Int)
  | b (w : List Int) (e : Int)
def Itm.sym : Itm → Int
  | .s x => x
  | .b _ _ => 0
def Itm.isB : Itm → Bool
  | .s _ => false
  | .b _ _ => true
/-- a symbolic configuration; the nearest item of a side is the first one -/
structure Sy where
  st : Int
  sym : Int
  left : List Itm
  right : List Itm
def initGo : List (List Int) → List (List Int) → List Itm
  | r :: rs, w :: ws => .b r 0 :: w.map Itm.s ++ initGo rs ws
  | _, _ => []
/-- the items of a shape, the farthest first -/
def initI (sh : Shp) : List Itm := (sh.words.headD []).map Itm.s ++ initGo sh.reps sh.words.tail
def sy0 (sh : Shp) : Sy := ⟨sh.st, 0, (initI sh).reverse, []⟩
def crossGo (m : Mach) (st0 move : Int) : Nat → Int → Int → List Int → Option (List Int)
  | 0, _, _, _ => none
  | f + 1, st, at_, cells =>
    let u := ruleOf m st (cells.getD at_.toNat 0)
    if u.2.2 = -1 then none
    else
      let c2 := cells.set at_.toNat u.1
      let a2 := at_ + u.2.1
      if a2 < 0 ∨ a2 = (c2.length : Int) then
        if u.2.2 = st0 ∧ decide (a2 < 0) = decide (move = -1) then some c2 else none
      else crossGo m st0 move f u.2.2 a2 c2
def crossed (m : Mach) (st : Int) (w : List Int) (move : Int) : Option (List Int) :=
  crossGo m st move 500 st (if move = 1 then 0 else (w.length : Int) - 1) w
/-- what split does to the items ahead: the word w with e, then r behind it -/
def splitA (w : List Int) (e move : Int) (r : List Itm) : List Itm := ((if move = -1 then w.reverse else w).map Itm.s) ++ .b w (e - 1) :: r
def goA (m : Mach) (st move first : Int) : List Itm → List Itm → Option (Int × List Itm × List Itm)
  | [], beh => some (0, [], beh)
  | .s x :: r, beh => some (x, r, beh)
  | .b w e :: r, beh =>
    match crossed m st w move with
    | some w2 => goA m st move first r (.b w2 e :: beh)
    | none =>
      if first + e < 1 then none
      else
        match splitA w e move r with
        | y :: r2 => some (y.sym, r2, beh)
        | [] => none
def moveS (m : Mach) (first : Int) (s : Sy) : Option Sy :=
  let u := ruleOf m s.st s.sym
  if u.2.2 = -1 then none
  else if u.2.1 = 1 then
    match goA m u.2.2 u.2.1 first s.right (.s u.1 :: s.left) with
    | some (x, r, l) => some ⟨u.2.2, x, l, r⟩
    | none => none
  else
    match goA m u.2.2 u.2.1 first s.left (.s u.1 :: s.right) with
    | some (x, l, r) => some ⟨u.2.2, x, l, r⟩
    | none => none
def Itm.word (n : Int) : Itm → List Int
  | .s x => [x]
  | .b w e => rep (n + e).toNat w
/-- what items stand for, the farthest first -/
def standsL (n : Int) : List Itm → List Int
  | [] => []
  | i :: r => i.word n ++ standsL n r
def standsFor (s : Sy) (n : Int) : List Int := bare (standsL n s.left.reverse)
def isZ : Itm → Bool
  | .s x => decide (x = 0)
  | .b _ _ => false
def checkGo (sh : Shp) (s : Sy) : Nat → Int → Bool
  | 0, _ => true
  | k + 1, n => if standsFor s n = bare (tapeOf sh (n + 1)) then checkGo sh s k (n + 1) else false
def manyOf (g : Nat) : Nat := if g = 0 then 2 else if g = 1 then 4 else 8
def returnsS (sh : Shp) (s : Sy) : Bool :=
  if s.st ≠ sh.st ∨ s.sym ≠ 0 then false
  else if (s.right.all isZ) = false then false
  else
    let k := (s.left.filter Itm.isB).length
    if k > 2 then false
    else checkGo sh s (manyOf (if sh.reps.length > k then sh.reps.length else k)) sh.first
def growsGo (m : Mach) (sh : Shp) : Nat → Sy → Bool
  | 0, _ => false
  | f + 1, s =>
    match moveS m sh.first s with
    | none => false
    | some s2 => if returnsS sh s2 = true then true else growsGo m sh f s2
def grows (m : Mach) (sh : Shp) : Bool := growsGo m sh 1000 (sy0 sh)
def hasShape (m0 : Mach) (start : Nat) (sh : Shp) : Bool :=
  let m := sidedM m0 sh.flip
  let r := Rn.run m start rn0
  if r.state = -1 ∨ r.state ≠ sh.st then false
  else
    let c := r.cells
    let word := bare (tapeOf sh sh.first)
    if tailW c r.place ≠ [] ∨ (c.2 ≠ [] ∧ c.1 + (c.2.length : Int) > r.place) then false
    else if c.2 = [] then decide (word = []) && grows m sh
    else decide (c.2 ++ List.replicate (r.place - c.1 - (c.2.length : Int)).toNat 0 = word) && grows m sh
structure ShpOk (sh : Shp) (S B : Nat) : Prop where
  st0 : 0 ≤ sh.st
  st1 : sh.st < S
  f1 : 1 ≤ sh.first
  f20 : sh.first ≤ 20
  wl : sh.words.length = sh.reps.length + 1
  rl1 : 1 ≤ sh.reps.length
  rl2 : sh.reps.length ≤ 2
  w : ∀ w ∈ sh.words, w.length ≤ 24 ∧ ∀ x ∈ w, 0 ≤ x ∧ x < B
  r : ∀ w ∈ sh.reps, 1 ≤ w.length ∧ w.length ≤ 24 ∧ ∀ x ∈ w, 0 ≤ x ∧ x < B
/-- the law's own: is the tape at a shape's configuration -/
def isAt (r : Rn) (sh : Shp) (n : Int) : Bool :=
  if r.state ≠ sh.st then false
  else
    let cs := tapeOf sh n
    (r.tape.all fun e => !(decide ((mget r.tape e.1).getD 0 ≠ 0) && (decide (e.1 - r.place + (cs.length : Int) < 0) || decide (e.1 - r.place + (cs.length : Int) ≥ (cs.length : Int))))) &&
      (List.range cs.length).all fun (k : Nat) => decide ((mget r.tape (r.place - (cs.length : Int) + (k : Int))).getD 0 = cs.getD k 0)
def wOk (B least : Int) (w : List Int) : Bool := (decide (least ≤ (w.length : Int)) && decide ((w.length : Int) ≤ 24)) && w.all fun x => decide (0 ≤ x) && decide (x < B)
def areW (B least : Int) (ws : List (List Int)) : Bool := ws.all (wOk B least)
def hasForm (sh : Shp) (S B : Int) : Bool :=
  if ((decide (0 ≤ sh.st) && decide (sh.st < S)) && (decide (1 ≤ sh.first) && decide (sh.first ≤ 20))) = false then false
  else if (areW B 0 sh.words && areW B 1 sh.reps) = false then false
  else (decide (1 ≤ (sh.reps.length : Int)) && decide ((sh.reps.length : Int) ≤ 2)) && decide ((sh.words.length : Int) = (sh.reps.length : Int) + 1)
theorem areW_ok {B : Nat} {least : Int} {ws : List (List Int)} (h : areW B least ws = true) : ∀ w ∈ ws, least ≤ w.length ∧ w.length ≤ 24 ∧ ∀ x ∈ w, 0 ≤ x ∧ x < B := fun w hw => by
  have q := List.all_eq_true.mp h w hw
  unfold wOk at q
  simp only [Bool.and_eq_true, decide_eq_true_eq, List.all_eq_true] at q
  exact ⟨q.1.1, by omega, q.2⟩
theorem hasForm_ok {sh : Shp} {S B : Nat} (h : hasForm sh S B = true) : ShpOk sh S B := by
  unfold hasForm at h
  split at h
  · cases h
  · rename_i h1
    split at h
    · cases h
    · rename_i h2
      rw [Bool.not_eq_false] at h1 h2
      simp only [Bool.and_eq_true, decide_eq_true_eq] at h h1 h2
      have a1 := areW_ok h2.1
      have a2 := areW_ok h2.2
      exact ⟨h1.1.1, h1.1.2, h1.2.1, h1.2.2, by omega, by omega, by omega, fun w hw => ⟨(a1 w hw).2.1, (a1 w hw).2.2⟩, fun w hw => ⟨by have := (a2 w hw).1; omega, (a2 w hw).2.1, (a2 w hw).2.2⟩⟩
end Tac

namespace Tac
open PySem L2

/-! ### frames: what a step may change -/
structure Fr (S : List Addr) (H H' : Hp) : Prop where
  kp : ∀ b o, H b = some o → b ∉ S → H' b = some o
  tp : Tp H H'
  nn : ∀ b, H' b = Option.none → H b = Option.none
theorem Fr.of {S : List Addr} {H H' : Hp} (e : Same H H') : Fr S H H' := ⟨fun b o h _ => e b o h, tpOf e, fun b h => e.free h⟩
theorem Fr.refl {S : List Addr} {H : Hp} : Fr S H H := Fr.of (Same.refl H)
theorem Fr.trans {S : List Addr} {H H1 H2 : Hp} (a : Fr S H H1) (b : Fr S H1 H2) : Fr S H H2 :=
  ⟨fun c o h n => b.kp c o (a.kp c o h n) n, a.tp.trans b.tp, fun c h => a.nn c (b.nn c h)⟩
theorem Fr.sub {S S' : List Addr} {H H' : Hp} (a : Fr S H H') (h : ∀ b, b ∈ S → b ∈ S') : Fr S' H H' := ⟨fun c o q n => a.kp c o q fun z => n (h c z), a.tp, a.nn⟩
theorem Fr.upd1 {H : Hp} {a : Addr} {o o' : HO} (h : H a = some o) (ht : ∀ xs, o ≠ .tup xs) : Fr [a] H (upd H a o') :=
  ⟨fun b u e n => by rw [upd_ne (fun q => n (by simp [q]))]; exact e, Tp.upd fun xs e => by rw [h] at e; exact ht xs (Option.some.inj e), fun b e => by
    by_cases q : b = a
    · rw [q, upd_same] at e; cases e
    · rw [upd_ne q] at e; exact e⟩
/-- what is written is new to H0 -/
theorem Fr.same {S : List Addr} {H0 H H' : Hp} (a : Fr S H H') (e : Same H0 H) (h : ∀ b, b ∈ S → H0 b = Option.none) : Same H0 H' := fun b o q =>
  a.kp b o (e b o q) fun z => by rw [h b z] at q; cases q
theorem Fr.nil {H H' : Hp} (a : Fr [] H H') : Same H H' := fun b o q => a.kp b o q (by simp)
theorem Fr.one {a : Addr} {H H' : Hp} {b : Addr} {o : HO} (f : Fr [a] H H') (h : H b = some o) (n : b ≠ a) : H' b = some o := f.kp b o h (by simpa using n)

/-! ### objects: the attributes by name -/
theorem lookup_zip {N : List Str} (nd : N.Nodup) : ∀ {vs : List V} {i : Nat} {f : Str} {v : V}, N[i]? = some f → vs[i]? = some v → (N.zip vs).lookup f = some v := by
  induction N with
  | nil => intro vs i f v h1; simp at h1
  | cons n r ih =>
    intro vs i f v h1 h2
    obtain ⟨hn, hr⟩ := List.nodup_cons.mp nd
    cases vs with
    | nil => simp at h2
    | cons w ws =>
      cases i with
      | zero =>
        simp at h1 h2
        subst h1 h2
        show List.lookup n ((n, w) :: _) = _
        rw [List.lookup_cons, beq_self_eq_true]
      | succ i =>
        have h1 : r[i]? = some f := by simpa using h1
        have h2 : ws[i]? = some v := by simpa using h2
        have ne : f ≠ n := fun q => hn (by rw [← q]; exact List.mem_of_getElem? h1)
        show List.lookup f ((n, w) :: r.zip ws) = _
        rw [List.lookup_cons, beq_eq_false_iff_ne.mpr ne]
        exact ih hr h1 h2
theorem lookup_zip_none {N : List Str} {m : Str} (h : m ∉ N) : ∀ {vs : List V}, (N.zip vs).lookup m = none := by
  induction N with
  | nil => intro vs; simp
  | cons n r ih =>
    intro vs
    cases vs with
    | nil => simp
    | cons w ws =>
      show List.lookup m ((n, w) :: r.zip ws) = _
      have ne : m ≠ n := fun q => h (by simp [q])
      rw [List.lookup_cons, beq_eq_false_iff_ne.mpr ne]
      exact ih fun z => h (List.mem_cons_of_mem _ z)
theorem putF_zip {N : List Str} (nd : N.Nodup) : ∀ {vs : List V} {i : Nat} {f : Str} {v : V}, N[i]? = some f → i < vs.length → putF f v (N.zip vs) = N.zip (vs.set i v) := by
  induction N with
  | nil => intro vs i f v h1; simp at h1
  | cons n r ih =>
    intro vs i f v h1 h2
    obtain ⟨hn, hr⟩ := List.nodup_cons.mp nd
    cases vs with
    | nil => simp at h2
    | cons w ws =>
      cases i with
      | zero =>
        simp at h1
        subst h1
        show (if n = n then (n, v) :: r.zip ws else _) = _
        rw [if_pos rfl]; rfl
      | succ i =>
        have h1 : r[i]? = some f := by simpa using h1
        have h2 : i < ws.length := by simpa using h2
        have ne : ¬ n = f := fun q => hn (by rw [q]; exact List.mem_of_getElem? h1)
        show (if n = f then _ else (n, w) :: putF f v (r.zip ws)) = _
        rw [if_neg ne, ih hr h1 h2]; rfl
theorem putF_zip_new {N : List Str} (nd : N.Nodup) : ∀ {vs : List V} {i : Nat} {f : Str} {v : V}, N[i]? = some f → vs.length = i → putF f v (N.zip vs) = N.zip (vs ++ [v]) := by
  induction N with
  | nil => intro vs i f v h1; simp at h1
  | cons n r ih =>
    intro vs i f v h1 h2
    obtain ⟨hn, hr⟩ := List.nodup_cons.mp nd
    cases vs with
    | nil =>
      have h2 : (0 : Nat) = i := h2
      subst h2
      simp at h1
      subst h1
      show putF n v [] = _
      simp [putF]
    | cons w ws =>
      cases i with
      | zero => simp at h2
      | succ i =>
        have h1 : r[i]? = some f := by simpa using h1
        have h2 : ws.length = i := by simpa using h2
        have ne : ¬ n = f := fun q => hn (by rw [q]; exact List.mem_of_getElem? h1)
        show (if n = f then _ else (n, w) :: putF f v (r.zip ws)) = _
        rw [if_neg ne, ih hr h1 h2]; rfl
theorem zip_len {N : List Str} {vs : List V} (h : N.length < 100) : (N.zip vs).length < 1000 := by rw [List.length_zip]; omega
/-- an instance of C at p whose attributes N hold ds, in order (the first ones of N, while it is being made) -/
def Ob (N : List Str) (H : Hp) (p C : Addr) (ds : List D) : Prop := ∃ dx vs, H p = some (.ins C dx (N.zip vs)) ∧ DTs H vs ds
theorem Ob.mono {N : List Str} {H H' : Hp} {p C : Addr} {ds : List D} (h : Ob N H p C ds) (e : Same H H') : Ob N H' p C ds := let ⟨dx, vs, h1, h2⟩ := h; ⟨dx, vs, e _ _ h1, h2.mono (tpOf e)⟩
theorem Ob.fr {N : List Str} {S : List Addr} {H H' : Hp} {p C : Addr} {ds : List D} (h : Ob N H p C ds) (e : Fr S H H') (n : p ∉ S) : Ob N H' p C ds := let ⟨dx, vs, h1, h2⟩ := h; ⟨dx, vs, e.kp _ _ h1 n, h2.mono e.tp⟩
theorem Ob.some {N : List Str} {H : Hp} {p C : Addr} {ds : List D} (h : Ob N H p C ds) : ∃ o, H p = Option.some o := let ⟨_, _, h1, _⟩ := h; ⟨_, h1⟩
theorem LsD.fr {S : List Addr} {H H' : Hp} {l : Addr} {ds : List D} (h : LsD H l ds) (e : Fr S H H') (n : l ∉ S) : LsD H' l ds := let ⟨vs, h1, h2⟩ := h; ⟨vs, e.kp _ _ h1 n, h2.mono e.tp⟩
theorem Ob.neL {N : List Str} {H : Hp} {p C l : Addr} {ds es : List D} (h : Ob N H p C ds) (k : LsD H l es) : p ≠ l := by
  obtain ⟨_, _, h1, _⟩ := h
  obtain ⟨_, h2, _⟩ := k
  exact ne_of h1 h2 (by intro q; cases q)

/-! ### dicts of ints -/
def kvI (m : List (Int × Int)) : List (Key × V) := m.map fun p => (Sum.inl p.1, V.int p.2)
def DcD (H : Hp) (d : Addr) (m : List (Int × Int)) : Prop := H d = some (.dK (kvI m))
theorem kvI_any (m : List (Int × Int)) (k : Int) : ((kvI m).any fun kv => decide (kv.1 = Sum.inl k)) = m.any fun p => decide (p.1 = k) := by
  unfold kvI
  rw [List.any_map]
  congr 1
  funext p
  show decide ((Sum.inl p.1 : Key) = Sum.inl k) = decide (p.1 = k)
  by_cases h : p.1 = k <;> simp [h]
theorem kvI_put (m : List (Int × Int)) (k v : Int) : putK (kvI m) (Sum.inl k) (.int v) = kvI (mput m k v) := by
  unfold putK mput
  rw [kvI_any]
  split
  · unfold kvI
    rw [List.map_map, List.map_map]
    refine List.map_congr_left fun p _ => ?_
    show (if (Sum.inl p.1 : Key) = Sum.inl k then _ else _) = _
    by_cases h : p.1 = k <;> simp [h]
  · unfold kvI
    rw [List.map_append]; rfl
theorem kvI_get : ∀ (m : List (Int × Int)) (k : Int), valV (kvI m) (Sum.inl k) = (mget m k).map V.int
  | [], _ => rfl
  | p :: r, k => by
    show valV ((Sum.inl p.1, V.int p.2) :: kvI r) (Sum.inl k) = _
    by_cases h : p.1 = k
    · rw [valV_pos (by show (Sum.inl p.1 : Key) = Sum.inl k; rw [h])]
      simp [mget, h]
    · rw [valV_neg (by intro q; exact h (Sum.inl.inj q)), kvI_get r k]
      simp [mget, h]
theorem mput_len (m : List (Int × Int)) (k v : Int) : (mput m k v).length ≤ m.length + 1 := by
  unfold mput; split <;> simp
theorem DcD.fr {S : List Addr} {H H' : Hp} {d : Addr} {m : List (Int × Int)} (h : DcD H d m) (e : Fr S H H') (n : d ∉ S) : DcD H' d m := e.kp _ _ h n
theorem DcD.mono {H H' : Hp} {d : Addr} {m : List (Int × Int)} (h : DcD H d m) (e : Same H H') : DcD H' d m := e _ _ h
theorem Ob.neD {N : List Str} {H : Hp} {p C l : Addr} {ds : List D} {m : List (Int × Int)} (h : Ob N H p C ds) (k : DcD H l m) : p ≠ l := by
  obtain ⟨_, _, h1, _⟩ := h
  exact ne_of h1 k (by intro q; cases q)
theorem LsD.neD {H : Hp} {p l : Addr} {ds : List D} {m : List (Int × Int)} (h : LsD H p ds) (k : DcD H l m) : p ≠ l := by
  obtain ⟨_, h1, _⟩ := h
  exact ne_of h1 k (by intro q; cases q)

/-! ### fields, dicts: what they evaluate to -/
section
variable {K : PySem.W.Frag} {g : Ga} {H H' : Hp} {ta tb tc te : TE} {t u : TT} {d e : D}
theorem e_fld {N : List Str} {p C : Addr} {ds : List D} {f : Str} (i : Nat) (ob : Ob N H p C ds) (c : Cls K C) (na : NoAttr K C f) (nd : N.Nodup) (hN : N[i]? = some f) (hd : ds[i]? = some d) (ha : Ev ta g H (.r p)) : Ev (tFld K ta f) g H d := fun σ H1 e s Q q =>
  ha σ H1 e s _ fun H2 v e2 hv => by
    obtain ⟨dx, vs, h1, h2⟩ := (ob.mono e).mono e2
    obtain ⟨z, h3, h4⟩ := h2.get hd
    exact ⟨p, C, dx, _, z, hv.r_inv, h1, c, na, lookup_zip nd hN h3, q H2 z e2 h4⟩
/-- d.get(k, x) -/
theorem e_get2 {l : Addr} {m : List (Int × Int)} {k x : Int} (hl : DcD H l m) (ha : Ev ta g H (.r l)) (hb : Ev tb g H (.i k)) (hc : Ev tc g H (.i x)) : Ev (tDGet2 ta tb tc) g H (.i ((mget m k).getD x)) := fun σ H1 e s Q q =>
  ha σ H1 e s _ fun H2 v e2 hv => by
    cases hv.r_inv
    refine ⟨l, rfl, .inl ⟨kvI m, .inl (e2 _ _ (e _ _ hl))⟩, hb σ H2 (e.trans e2) (s.mono (tpOf e2)) _ fun H3 y e3 hy => hc σ H3 ((e.trans e2).trans e3) (s.mono (tpOf (e2.trans e3))) _ fun H4 z e4 hz => ?_⟩
    cases hy.i_inv; cases hz.i_inv
    refine ⟨_, DGet.k (k := Sum.inl k) (e4 _ _ (e3 _ _ (e2 _ _ (e _ _ hl)))), ?_⟩
    rw [kvI_get]
    have hz : ((mget m k).map V.int).getD (.int x) = .int ((mget m k).getD x) := by cases mget m k <;> rfl
    rw [hz]
    exact q H4 _ ((e2.trans e3).trans e4) .i
/-- d[k], the key there; the dict may be locked -/
theorem e_dget {l : Addr} {m : List (Int × Int)} {k x : Int} (hl : Rd H l (.dK (kvI m))) (hx : mget m k = some x) (ha : Ev ta g H (.r l)) (hb : Ev tb g H (.i k)) : Ev (tDGet ta tb) g H (.i x) := fun σ H1 e s Q q =>
  ha σ H1 e s _ fun H2 v e2 hv => hb σ H2 (e.trans e2) (s.mono (tpOf e2)) _ fun H3 y e3 hy => by
    have hv' := hv.r_inv
    cases hy.i_inv
    have e13 := (e.trans e2).trans e3
    have hr : Rd H3 l (.dK (kvI m)) := by
      rcases hl with hl | ⟨o, hl⟩
      · exact .inl (e13 _ _ hl)
      · exact .inr ⟨o, e13 _ _ hl⟩
    exact ⟨l, .int x, hv', .inl ⟨kvI m, Sum.inl k, hr, rfl, by rw [kvI_get, hx]; rfl⟩, q H3 _ (e2.trans e3) .i⟩

/-! ### statements -/
def W (t : TS) (E : Ends) (g : Ga) (H : Hp) : Prop := ∀ σ, Sl H σ g → t E σ H
/-- what follows -/
def N (E : Ends) (g : Ga) (H : Hp) : Prop := ∀ σ, Sl H σ g → E.nx σ H
/-- assignment to a target -/
def Gs (tg : TG) (g : Ga) (H : Hp) (d : D) (g' : Ga) : Prop := ∀ σ v, Sl H σ g → DT H v d → ∀ Q : St → Hp → Prop, (∀ σ', Sl H σ' g' → Q σ' H) → tg v σ H Q
def GsW (tg : TG) (vs : List Nat) (g : Ga) (H : Hp) (d : D) (g' : Ga) : Prop := ∀ σ v, Sl H σ g → DT H v d → ∀ Q : St → Hp → Prop, (∀ σ', Sl H σ' g' → wipe σ' vs = wipe σ vs → Q σ' H) → tg v σ H Q
def GsL (tg : TGs) (vs : List Nat) (g : Ga) (H : Hp) (ds : List D) (g' : Ga) : Prop := ∀ σ ws, Sl H σ g → DTs H ws ds → ∀ Q : St → Hp → Prop, (∀ σ', Sl H σ' g' → wipe σ' vs = wipe σ vs → Q σ' H) → tg ws σ H Q
theorem wipe_set {σ : St} {i : Nat} {o : Option V} : ∀ {vs : List Nat}, i ∈ vs → wipe (σ.set i o) vs = wipe σ vs
  | [], h => by simp at h
  | v :: vs, h => by
    show (wipe (σ.set i o) vs).set v none = (wipe σ vs).set v none
    by_cases hi : i ∈ vs
    · rw [wipe_set hi]
    · have e : i = v := by
        rcases List.mem_cons.mp h with z | z
        · exact z
        · exact absurd z hi
      subst e
      have key : ∀ (ws : List Nat), i ∉ ws → wipe (σ.set i o) ws = (wipe σ ws).set i o := by
        intro ws
        induction ws with
        | nil => intro _; rfl
        | cons w ws ih =>
          intro hn
          have h1 : i ≠ w := fun q => hn (by simp [q])
          show (wipe (σ.set i o) ws).set w none = ((wipe σ ws).set w none).set i o
          rw [ih fun z => hn (List.mem_cons_of_mem _ z), List.set_comm _ _ h1]
      rw [key vs hi, List.set_set]
theorem g_name {i : Nat} : Gs (gName i) g H d (g.set i (some d)) := fun σ v s h Q q => q _ (s.set h i)
theorem gw_name {i : Nat} {vs : List Nat} (hi : i ∈ vs) : GsW (gName i) vs g H d (g.set i (some d)) := fun σ v s h Q q => q _ (s.set h i) (wipe_set hi)
theorem gl_nil {vs : List Nat} : GsL gNil vs g H [] g := fun σ ws s h Q q => ⟨h.nil_inv, q σ s rfl⟩
theorem gl_cons {tg : TG} {tr : TGs} {vs : List Nat} {ds : List D} {g1 g2 : Ga} (h1 : GsW tg vs g H d g1) (h2 : GsL tr vs g1 H ds g2) : GsL (gCons tg tr) vs g H (d :: ds) g2 := fun σ ws s h Q q => by
  obtain ⟨v, r, rfl, hv, hr⟩ := h.cons_inv
  exact ⟨v, r, rfl, h1 σ v s hv _ fun σ1 s1 e1 => h2 σ1 r s1 hr _ fun σ2 s2 e2 => q σ2 s2 (e2.trans e1)⟩
theorem gw_tup {tr : TGs} {n : Nat} {vs : List Nat} {ds : List D} {g2 : Ga} (h : GsL tr vs g H ds g2) (hn : ds.length = n) : GsW (gTup K n tr) vs g H (.t ds) g2 := fun σ v s hv Q q => by
  obtain ⟨a, ws, rfl, h1, h2⟩ := hv.t_inv
  exact ⟨a, ws, rfl, SqT.of h1, by rw [h2.length]; exact hn, h σ ws s h2 _ q⟩
theorem GsW.gs {tg : TG} {vs : List Nat} {g2 : Ga} (h : GsW tg vs g H d g2) : Gs tg g H d g2 := fun σ v s hv Q q => h σ v s hv Q fun σ' s' _ => q σ' s'

variable {E : Ends} {tz tu tw : TS} {R : D → Hp → Prop}
theorem s_asgG {tg : TG} {g' : Ga} (h : Ev te g H d) (hg : ∀ H1, Gs tg g H1 d g') (k : ∀ H1, Same H H1 → N E g' H1) : W (tAsg te tg) E g H := fun σ s =>
  h σ H (Same.refl _) s _ fun H1 v e hv => hg H1 σ v (s.mono (tpOf e)) hv _ fun σ' s' => k H1 e σ' s'
theorem s_asg {i : Nat} (h : Ev te g H d) (k : ∀ H1, Same H H1 → N E (g.set i (some d)) H1) : W (tAsg te (gName i)) E g H := s_asgG h (fun _ => g_name) k
theorem s_asgL {i : Nat} {ds : List D} (h : EvL te g H ds) (k : ∀ H1 p, Same H H1 → H p = none → LsD H1 p ds → N E (g.set i (some (.r p))) H1) : W (tAsg te (gName i)) E g H := fun σ s =>
  h σ H (Same.refl _) s _ fun H1 p vs e hp h1 hd => k H1 p e hp ⟨vs, h1, hd⟩ _ ((s.mono (tpOf e)).set .r i)
theorem s_asgM {i : Nat} (h : EvM te g H R) (k : ∀ H1 d, Tp H H1 → R d H1 → N E (g.set i (some d)) H1) : W (tAsg te (gName i)) E g H := fun σ s =>
  h σ s _ fun H1 v d e hv hR => k H1 d e hR _ ((s.mono e).set hv i)
theorem s_asgGM {tg : TG} (h : EvM te g H R) (k : ∀ H1 d, Tp H H1 → R d H1 → ∃ g', Gs tg g H1 d g' ∧ N E g' H1) : W (tAsg te tg) E g H := fun σ s =>
  h σ s _ fun H1 v d e hv hR => by
    obtain ⟨g', h1, h2⟩ := k H1 d e hR
    exact h1 σ v (s.mono e) hv _ h2
theorem s_ret (h : Ev te g H d) (k : ∀ H1 v, Same H H1 → DT H1 v d → E.rt v H1) : W (tRet te) E g H := fun σ s => h σ H (Same.refl _) s _ fun H1 v e hv => k H1 v e hv
theorem s_retM (h : EvM te g H R) (k : ∀ H1 v d, Tp H H1 → DT H1 v d → R d H1 → E.rt v H1) : W (tRet te) E g H := fun σ s => h σ s _ fun H1 v d e hv hR => k H1 v d e hv hR
theorem s_dropM (h : EvM te g H R) (k : ∀ H1 d, Tp H H1 → R d H1 → N E g H1) : W (tDrop te) E g H := fun σ s => h σ s _ fun H1 v d e hv hR => k H1 d e hR σ (s.mono e)
theorem s_if {b : Bool} (h : EvT t g H b) (h1 : b = true → ∀ H1, Same H H1 → W tu E g H1) (h2 : b = false → ∀ H1, Same H H1 → W tw E g H1) : W (tIfS t tu tw) E g H := fun σ s =>
  h σ H (Same.refl _) s _ fun H1 e => by
    cases b with
    | true => exact iteT (h1 rfl H1 e σ (s.mono (tpOf e)))
    | false => exact iteF (h2 rfl H1 e σ (s.mono (tpOf e)))
theorem s_ifM {R : Bool → Hp → Prop} (h : EvTM t g H R) (h1 : ∀ H1, Tp H H1 → R true H1 → W tu E g H1) (h2 : ∀ H1, Tp H H1 → R false H1 → W tw E g H1) : W (tIfS t tu tw) E g H := fun σ s =>
  h σ s _ fun H1 b e hR => by
    cases b with
    | true => exact iteT (h1 H1 e hR σ (s.mono e))
    | false => exact iteF (h2 H1 e hR σ (s.mono e))
theorem s_next (k : N E g H) : W tNext E g H := k
theorem s_break (k : ∀ σ, Sl H σ g → E.bk σ H) : W tBreak E g H := k
/-- name op= e -/
theorem s_augI {i : Nat} {f : Int → Int → Int} {a b : Int} (hx : g[i]? = some (some (.i a))) (h : Ev te g H (.i b)) (k : ∀ H1, Same H H1 → N E (g.set i (some (.i (f a b)))) H1) : W (tAug i te (ipI f)) E g H := fun σ s => by
  obtain ⟨v, h1, h2⟩ := s.get hx
  cases h2.i_inv
  exact ⟨_, h1, h σ H (Same.refl _) s _ fun H1 w e hw => ⟨a, b, rfl, hw.i_inv, k H1 e _ ((s.mono (tpOf e)).set .i i)⟩⟩
/-- o.f = e -/
theorem s_fld {Nm : List Str} {p C : Addr} {ds : List D} {f : Str} (i : Nat) (c : Cls K C) (na : NoAttr K C f) (nd : Nm.Nodup) (hN : Nm[i]? = some f) (hl : Nm.length < 100) (ob : Ob Nm H p C ds) (hi : i < ds.length) (h : Ev te g H d) (ha : Ev ta g H (.r p))
    (k : ∀ H1, Fr [p] H H1 → Ob Nm H1 p C (ds.set i d) → N E g H1) : W (sFld K ta te f) E g H := fun σ s =>
  h σ H (Same.refl _) s _ fun H1 v e hv => ha σ H1 e (s.mono (tpOf e)) _ fun H2 w e2 hw => by
    obtain ⟨dx, vs, h1, h2⟩ := (ob.mono e).mono e2
    have f1 : Fr [p] H2 (upd H2 p (.ins C dx (putF f v (Nm.zip vs)))) := Fr.upd1 h1 (fun xs q => by cases q)
    refine ⟨p, C, dx, _, hw.r_inv, h1, c, na, zip_len hl, k _ ((Fr.of (e.trans e2)).trans f1) ⟨dx, vs.set i v, ?_, ?_⟩ σ ((s.mono (tpOf (e.trans e2))).mono f1.tp)⟩
    · rw [upd_same, putF_zip nd hN (by rw [h2.length]; exact hi)]
    · exact (h2.set (hv.mono (tpOf e2)) i).mono f1.tp
/-- o.f = e, f not there yet -/
theorem s_fldN {Nm : List Str} {p C : Addr} {ds : List D} {f : Str} (i : Nat) (c : Cls K C) (na : NoAttr K C f) (nd : Nm.Nodup) (hN : Nm[i]? = some f) (hl : Nm.length < 100) (ob : Ob Nm H p C ds) (hi : ds.length = i) (h : Ev te g H d) (ha : Ev ta g H (.r p))
    (k : ∀ H1, Fr [p] H H1 → Ob Nm H1 p C (ds ++ [d]) → N E g H1) : W (sFld K ta te f) E g H := fun σ s =>
  h σ H (Same.refl _) s _ fun H1 v e hv => ha σ H1 e (s.mono (tpOf e)) _ fun H2 w e2 hw => by
    obtain ⟨dx, vs, h1, h2⟩ := (ob.mono e).mono e2
    have f1 : Fr [p] H2 (upd H2 p (.ins C dx (putF f v (Nm.zip vs)))) := Fr.upd1 h1 (fun xs q => by cases q)
    refine ⟨p, C, dx, _, hw.r_inv, h1, c, na, zip_len hl, k _ ((Fr.of (e.trans e2)).trans f1) ⟨dx, vs ++ [v], ?_, ?_⟩ σ ((s.mono (tpOf (e.trans e2))).mono f1.tp)⟩
    · rw [upd_same, putF_zip_new nd hN (by rw [h2.length]; exact hi)]
    · exact (h2.append (.one (hv.mono (tpOf e2)))).mono f1.tp
/-- o.f = e, e any way (a new list, a new dict, a call) -/
theorem s_fldM {Nm : List Str} {p C : Addr} {f : Str} (i : Nat) (c : Cls K C) (na : NoAttr K C f) (nd : Nm.Nodup) (hN : Nm[i]? = some f) (hl : Nm.length < 100) (h : EvM te g H R)
    (k : ∀ H1 d, Tp H H1 → R d H1 → ∃ ds, Ob Nm H1 p C ds ∧ ds.length = i ∧ Ev ta g H1 (.r p) ∧ ∀ H2, Fr [p] H1 H2 → Ob Nm H2 p C (ds ++ [d]) → N E g H2) : W (sFld K ta te f) E g H := fun σ s =>
  h σ s _ fun H1 v d e hv hR => by
    obtain ⟨ds, ob, hi, ha, k⟩ := k H1 d e hR
    refine ha σ H1 (Same.refl _) (s.mono e) _ fun H2 w e2 hw => ?_
    obtain ⟨dx, vs, h1, h2⟩ := ob.mono e2
    have f1 : Fr [p] H2 (upd H2 p (.ins C dx (putF f v (Nm.zip vs)))) := Fr.upd1 h1 (fun xs q => by cases q)
    refine ⟨p, C, dx, _, hw.r_inv, h1, c, na, zip_len hl, k _ ((Fr.of e2).trans f1) ⟨dx, vs ++ [v], ?_, ?_⟩ σ ((s.mono (e.trans (tpOf e2))).mono f1.tp)⟩
    · rw [upd_same, putF_zip_new nd hN (by rw [h2.length]; exact hi)]
    · exact (h2.append (.one (hv.mono (tpOf e2)))).mono f1.tp
/-- o.f += e, ints -/
theorem s_fldaug {Nm : List Str} {p C : Addr} {ds : List D} {f : Str} {a b : Int} (i : Nat) (c : Cls K C) (na : NoAttr K C f) (nd : Nm.Nodup) (hN : Nm[i]? = some f) (hl : Nm.length < 100) (ob : Ob Nm H p C ds) (hd : ds[i]? = some (.i a)) (h : Ev te g H (.i b)) (ha : Ev ta g H (.r p))
    (k : ∀ H1, Fr [p] H H1 → Ob Nm H1 p C (ds.set i (.i (a + b))) → N E g H1) : W (sFldAug K ta te rAdd f) E g H := fun σ s =>
  ha σ H (Same.refl _) s _ fun H1 w e hw => by
    obtain ⟨dx, vs, h1, h2⟩ := ob.mono e
    obtain ⟨z, h3, h4⟩ := h2.get hd
    cases h4.i_inv
    refine ⟨p, C, dx, _, _, hw.r_inv, h1, c, na, lookup_zip nd hN h3, h σ H1 e (s.mono (tpOf e)) _ fun H2 v e2 hv => ⟨a, b, rfl, hv.i_inv, dx, _, e2 _ _ h1, zip_len hl, ?_⟩⟩
    have f1 : Fr [p] H2 (upd H2 p (.ins C dx (putF f (.int (a + b)) (Nm.zip vs)))) := Fr.upd1 (e2 _ _ h1) (fun xs q => by cases q)
    refine k _ ((Fr.of (e.trans e2)).trans f1) ⟨dx, vs.set i (.int (a + b)), ?_, ?_⟩ σ ((s.mono (tpOf (e.trans e2))).mono f1.tp)
    · rw [upd_same, putF_zip nd hN (List.getElem?_eq_some_iff.mp h3).1]
    · exact ((h2.mono (tpOf e2)).set .i i).mono f1.tp
/-- xs.append(e) -/
theorem s_app {l : Addr} {ds : List D} (hl : LsD H l ds) (hz : ds.length < sizeLine) (ha : Ev ta g H (.r l)) (h : Ev te g H d) (k : ∀ H1, Fr [l] H H1 → LsD H1 l (ds ++ [d]) → N E g H1) : W (tDrop (tBM K "list" rAppend ta (tCons te tNil))) E g H := fun σ s =>
  ha σ H (Same.refl _) s _ fun H1 w e hw => by
    cases hw.r_inv
    obtain ⟨vs, h1, h2⟩ := hl.mono e
    refine ⟨.inl ⟨rfl, vs, SqL.of h1⟩, h σ H1 e (s.mono (tpOf e)) _ fun H2 v e2 hv => ⟨l, vs, v, rfl, rfl, e2 _ _ h1, by rw [h2.length]; exact hz, ?_⟩⟩
    have f1 : Fr [l] H2 (upd H2 l (.lst (vs ++ [v]))) := Fr.upd1 (e2 _ _ h1) (fun xs q => by cases q)
    exact k _ ((Fr.of (e.trans e2)).trans f1) ⟨_, upd_same, ((h2.mono (tpOf e2)).append (.one hv)).mono f1.tp⟩ σ ((s.mono (tpOf (e.trans e2))).mono f1.tp)
/-- d[k] = e, ints -/
theorem s_dput {l : Addr} {m : List (Int × Int)} {x y : Int} (hl : DcD H l m) (hz : m.length < sizeLine) (h : Ev te g H (.i y)) (ha : Ev ta g H (.r l)) (hb : Ev tb g H (.i x)) (k : ∀ H1, Fr [l] H H1 → DcD H1 l (mput m x y) → N E g H1) : W (sDPut ta tb te) E g H := fun σ s =>
  h σ H (Same.refl _) s _ fun H1 v e hv => ha σ H1 e (s.mono (tpOf e)) _ fun H2 w e2 hw => hb σ H2 (e.trans e2) (s.mono (tpOf (e.trans e2))) _ fun H3 z e3 hz' => by
    cases hv.i_inv; cases hz'.i_inv
    have e13 := (e.trans e2).trans e3
    have hl3 : H3 l = some (.dK (kvI m)) := e13 _ _ hl
    have f1 : Fr [l] H3 (upd H3 l (.dK (putK (kvI m) (Sum.inl x) (.int y)))) := Fr.upd1 hl3 (fun xs q => by cases q)
    refine ⟨l, _, hw.r_inv, DPut.k (k := Sum.inl x) hl3 (by unfold kvI; rw [List.length_map]; exact hz), k _ ((Fr.of e13).trans f1) ?_ σ ((s.mono (tpOf e13)).mono f1.tp)⟩
    show upd H3 l _ l = _
    rw [upd_same, kvI_put]
/-- xs[i] = e -/
theorem s_setL {l : Addr} {ds : List D} {x : Int} {j : Nat} (hl : LsD H l ds) (hx : ixN ds.length x = some j) (h : Ev te g H d) (ha : Ev ta g H (.r l)) (hb : Ev tb g H (.i x)) (k : ∀ H1, Fr [l] H H1 → LsD H1 l (ds.set j d) → N E g H1) : W (tAsg te (gSub ta tb rSetL)) E g H := fun σ s =>
  h σ H (Same.refl _) s _ fun H1 v e hv => ha σ H1 e (s.mono (tpOf e)) _ fun H2 w e2 hw => hb σ H2 (e.trans e2) (s.mono (tpOf (e.trans e2))) _ fun H3 z e3 hz' => by
    have e13 := (e.trans e2).trans e3
    obtain ⟨vs, h1, h2⟩ := hl.mono e13
    have f1 : Fr [l] H3 (upd H3 l (.lst (vs.set j v))) := Fr.upd1 h1 (fun xs q => by cases q)
    refine ⟨l, vs, x, j, hw.r_inv, hz'.i_inv, h1, by rw [h2.length]; exact hx, k _ ((Fr.of e13).trans f1) ⟨_, upd_same, (h2.set (hv.mono (tpOf (e2.trans e3))) j).mono f1.tp⟩ σ ((s.mono (tpOf e13)).mono f1.tp)⟩

/-! ### the same, something behind -/
theorem q_asgG {tg : TG} {g' : Ga} (h : Ev te g H d) (hg : ∀ H1, Gs tg g H1 d g') (k : ∀ H1, Same H H1 → W tz E g' H1) : W (tSeq (tAsg te tg) tz) E g H := s_asgG (E := { E with nx := tz E }) h hg k
theorem q_asg {i : Nat} (h : Ev te g H d) (k : ∀ H1, Same H H1 → W tz E (g.set i (some d)) H1) : W (tSeq (tAsg te (gName i)) tz) E g H := s_asg (E := { E with nx := tz E }) h k
theorem q_asgL {i : Nat} {ds : List D} (h : EvL te g H ds) (k : ∀ H1 p, Same H H1 → H p = none → LsD H1 p ds → W tz E (g.set i (some (.r p))) H1) : W (tSeq (tAsg te (gName i)) tz) E g H := s_asgL (E := { E with nx := tz E }) h k
theorem q_asgM {i : Nat} (h : EvM te g H R) (k : ∀ H1 d, Tp H H1 → R d H1 → W tz E (g.set i (some d)) H1) : W (tSeq (tAsg te (gName i)) tz) E g H := s_asgM (E := { E with nx := tz E }) h k
theorem q_asgGM {tg : TG} (h : EvM te g H R) (k : ∀ H1 d, Tp H H1 → R d H1 → ∃ g', Gs tg g H1 d g' ∧ W tz E g' H1) : W (tSeq (tAsg te tg) tz) E g H := s_asgGM (E := { E with nx := tz E }) h k
theorem q_dropM (h : EvM te g H R) (k : ∀ H1 d, Tp H H1 → R d H1 → W tz E g H1) : W (tSeq (tDrop te) tz) E g H := s_dropM (E := { E with nx := tz E }) h k
theorem q_if {b : Bool} (h : EvT t g H b) (h1 : b = true → ∀ H1, Same H H1 → W tu { E with nx := tz E } g H1) (h2 : b = false → ∀ H1, Same H H1 → W tw { E with nx := tz E } g H1) : W (tSeq (tIfS t tu tw) tz) E g H := s_if (E := { E with nx := tz E }) h h1 h2
theorem q_ifM {R : Bool → Hp → Prop} (h : EvTM t g H R) (h1 : ∀ H1, Tp H H1 → R true H1 → W tu { E with nx := tz E } g H1) (h2 : ∀ H1, Tp H H1 → R false H1 → W tw { E with nx := tz E } g H1) : W (tSeq (tIfS t tu tw) tz) E g H := s_ifM (E := { E with nx := tz E }) h h1 h2
/-- an if without else -/
theorem q_when {b : Bool} (h : EvT t g H b) (h1 : b = true → ∀ H1, Same H H1 → W tu { E with nx := tz E } g H1) (h2 : b = false → ∀ H1, Same H H1 → W tz E g H1) : W (tSeq (tIfS t tu tNext) tz) E g H := s_if (E := { E with nx := tz E }) h h1 h2
theorem q_whenM {R : Bool → Hp → Prop} (h : EvTM t g H R) (h1 : ∀ H1, Tp H H1 → R true H1 → W tu { E with nx := tz E } g H1) (h2 : ∀ H1, Tp H H1 → R false H1 → W tz E g H1) : W (tSeq (tIfS t tu tNext) tz) E g H := s_ifM (E := { E with nx := tz E }) h h1 h2
theorem s_when {b : Bool} (h : EvT t g H b) (h1 : b = true → ∀ H1, Same H H1 → W tu E g H1) (h2 : b = false → ∀ H1, Same H H1 → N E g H1) : W (tIfS t tu tNext) E g H := s_if h h1 h2
theorem q_augI {i : Nat} {f : Int → Int → Int} {a b : Int} (hx : g[i]? = some (some (.i a))) (h : Ev te g H (.i b)) (k : ∀ H1, Same H H1 → W tz E (g.set i (some (.i (f a b)))) H1) : W (tSeq (tAug i te (ipI f)) tz) E g H := s_augI (E := { E with nx := tz E }) hx h k
theorem q_fld {Nm : List Str} {p C : Addr} {ds : List D} {f : Str} (i : Nat) (c : Cls K C) (na : NoAttr K C f) (nd : Nm.Nodup) (hN : Nm[i]? = some f) (hl : Nm.length < 100) (ob : Ob Nm H p C ds) (hi : i < ds.length) (h : Ev te g H d) (ha : Ev ta g H (.r p))
    (k : ∀ H1, Fr [p] H H1 → Ob Nm H1 p C (ds.set i d) → W tz E g H1) : W (tSeq (sFld K ta te f) tz) E g H := s_fld (E := { E with nx := tz E }) i c na nd hN hl ob hi h ha k
theorem q_fldN {Nm : List Str} {p C : Addr} {ds : List D} {f : Str} (i : Nat) (c : Cls K C) (na : NoAttr K C f) (nd : Nm.Nodup) (hN : Nm[i]? = some f) (hl : Nm.length < 100) (ob : Ob Nm H p C ds) (hi : ds.length = i) (h : Ev te g H d) (ha : Ev ta g H (.r p))
    (k : ∀ H1, Fr [p] H H1 → Ob Nm H1 p C (ds ++ [d]) → W tz E g H1) : W (tSeq (sFld K ta te f) tz) E g H := s_fldN (E := { E with nx := tz E }) i c na nd hN hl ob hi h ha k
theorem q_fldM {Nm : List Str} {p C : Addr} {f : Str} (i : Nat) (c : Cls K C) (na : NoAttr K C f) (nd : Nm.Nodup) (hN : Nm[i]? = some f) (hl : Nm.length < 100) (h : EvM te g H R)
    (k : ∀ H1 d, Tp H H1 → R d H1 → ∃ ds, Ob Nm H1 p C ds ∧ ds.length = i ∧ Ev ta g H1 (.r p) ∧ ∀ H2, Fr [p] H1 H2 → Ob Nm H2 p C (ds ++ [d]) → W tz E g H2) : W (tSeq (sFld K ta te f) tz) E g H := s_fldM (E := { E with nx := tz E }) i c na nd hN hl h k
theorem q_fldaug {Nm : List Str} {p C : Addr} {ds : List D} {f : Str} {a b : Int} (i : Nat) (c : Cls K C) (na : NoAttr K C f) (nd : Nm.Nodup) (hN : Nm[i]? = some f) (hl : Nm.length < 100) (ob : Ob Nm H p C ds) (hd : ds[i]? = some (.i a)) (h : Ev te g H (.i b)) (ha : Ev ta g H (.r p))
    (k : ∀ H1, Fr [p] H H1 → Ob Nm H1 p C (ds.set i (.i (a + b))) → W tz E g H1) : W (tSeq (sFldAug K ta te rAdd f) tz) E g H := s_fldaug (E := { E with nx := tz E }) i c na nd hN hl ob hd h ha k
theorem q_app {l : Addr} {ds : List D} (hl : LsD H l ds) (hz : ds.length < sizeLine) (ha : Ev ta g H (.r l)) (h : Ev te g H d) (k : ∀ H1, Fr [l] H H1 → LsD H1 l (ds ++ [d]) → W tz E g H1) : W (tSeq (tDrop (tBM K "list" rAppend ta (tCons te tNil))) tz) E g H := s_app (E := { E with nx := tz E }) hl hz ha h k
theorem q_dput {l : Addr} {m : List (Int × Int)} {x y : Int} (hl : DcD H l m) (hz : m.length < sizeLine) (h : Ev te g H (.i y)) (ha : Ev ta g H (.r l)) (hb : Ev tb g H (.i x)) (k : ∀ H1, Fr [l] H H1 → DcD H1 l (mput m x y) → W tz E g H1) : W (tSeq (sDPut ta tb te) tz) E g H := s_dput (E := { E with nx := tz E }) hl hz h ha hb k
theorem q_setL {l : Addr} {ds : List D} {x : Int} {j : Nat} (hl : LsD H l ds) (hx : ixN ds.length x = some j) (h : Ev te g H d) (ha : Ev ta g H (.r l)) (hb : Ev tb g H (.i x)) (k : ∀ H1, Fr [l] H H1 → LsD H1 l (ds.set j d) → W tz E g H1) : W (tSeq (tAsg te (gSub ta tb rSetL)) tz) E g H := s_setL (E := { E with nx := tz E }) hl hx h ha hb k
end

/-! ### loops -/
def Nx (J : Ga → Hp → Prop) : St → Hp → Prop := fun σ H => ∃ g, Sl H σ g ∧ J g H
theorem n_nx {J : Ga → Hp → Prop} {g : Ga} {H : Hp} {E : Ends} (h : J g H) : N { E with nx := Nx J } g H := fun σ s => ⟨g, s, h⟩
section
variable {K : PySem.W.Frag} {g : Ga} {H H' : Hp} {ta tb tc te : TE} {t u : TT} {d e : D} {E : Ends} {tz tu tw : TS} {tg : TG}
abbrev lp (E : Ends) (J : Ga → Hp → Prop) : Ends := { E with nx := Nx J, ct := Nx J, bk := E.nx }
/-- over a tuple -/
theorem s_forT {ds : List D} (hl : Ev te g H (.t ds)) (h : ∀ H1, Same H H1 → ∃ J : Nat → Ga → Hp → Prop, J 0 g H1 ∧ (∀ k g' H', J k g' H' → Tp H1 H') ∧
    (∀ k x g' H', ds[k]? = some x → J k g' H' → ∃ g2, Gs tg g' H' x g2 ∧ W tu (lp E (J (k + 1))) g2 H') ∧ ∀ g' H', J ds.length g' H' → N E g' H') : W (tFor (iTup K te) tg tu) E g H := fun σ s =>
  hl σ H (Same.refl _) s _ fun H1 v e1 hv => by
    obtain ⟨a, vs, rfl, h1, h2⟩ := hv.t_inv
    obtain ⟨J, j0, jt, jn, jd⟩ := h H1 e1
    refine ⟨a, rfl, ⟨vs, SqT.of h1⟩, for_tup (K := K) (a := a) (xs := vs) (fun k => Nx (J k)) ⟨g, s.mono (tpOf e1), j0⟩ (fun k σ' H' _ ⟨g', _, hj⟩ => SqT.of (jt k g' H' hj _ _ h1)) ?_ ?_⟩
    · rintro k x σ' H' hx ⟨g', s', hj⟩
      obtain ⟨d, hd, hxd⟩ := h2.get' hx
      obtain ⟨g2, hg, hw⟩ := jn k d g' H' hd hj
      exact hg σ' x s' (hxd.mono (jt k g' H' hj)) _ fun σ2 s2 => hw σ2 s2
    · rintro σ' H' ⟨g', s', hj⟩
      rw [h2.length] at hj
      exact jd g' H' hj σ' s'
/-- over a list that stands -/
theorem s_forL {l : Addr} {ds : List D} (hl : Ev te g H (.r l)) (hls : LsD H l ds) (h : ∀ H1, Same H H1 → ∃ J : Nat → Ga → Hp → Prop, J 0 g H1 ∧ (∀ k g' H', J k g' H' → Fr [] H1 H' ∨ ∃ S, Fr S H1 H' ∧ l ∉ S) ∧
    (∀ k x g' H', ds[k]? = some x → J k g' H' → ∃ g2, Gs tg g' H' x g2 ∧ W tu (lp E (J (k + 1))) g2 H') ∧ ∀ g' H', J ds.length g' H' → N E g' H') : W (tFor (iList K te) tg tu) E g H := fun σ s =>
  hl σ H (Same.refl _) s _ fun H1 v e1 hv => by
    obtain ⟨vs, h1, h2⟩ := hls.mono e1
    obtain ⟨J, j0, jt, jn, jd⟩ := h H1 e1
    have st : ∀ k g' H', J k g' H' → H' l = some (.lst vs) ∧ Tp H1 H' := fun k g' H' hj => by
      rcases jt k g' H' hj with z | ⟨S, z, n⟩
      · exact ⟨z.nil _ _ h1, z.tp⟩
      · exact ⟨z.kp _ _ h1 n, z.tp⟩
    refine ⟨l, hv.r_inv, ⟨vs, SqL.of h1⟩, for_list (K := K) (a := l) (xs := vs) (fun k => Nx (J k)) ⟨g, s.mono (tpOf e1), j0⟩ (fun k σ' H' _ ⟨g', _, hj⟩ => SqL.of (st k g' H' hj).1) ?_ ?_⟩
    · rintro k x σ' H' hx ⟨g', s', hj⟩
      obtain ⟨d, hd, hxd⟩ := h2.get' hx
      obtain ⟨g2, hg, hw⟩ := jn k d g' H' hd hj
      exact hg σ' x s' (hxd.mono (st k g' H' hj).2) _ fun σ2 s2 => hw σ2 s2
    · rintro σ' H' ⟨g', s', hj⟩
      rw [h2.length] at hj
      exact jd g' H' hj σ' s'
/-- over a list that is new -/
theorem s_forN {ds : List D} (hl : EvL te g H ds) (h : ∀ H1 l, Same H H1 → H l = none → LsD H1 l ds → ∃ J : Nat → Ga → Hp → Prop, J 0 g H1 ∧ (∀ k g' H', J k g' H' → ∃ S, Fr S H1 H' ∧ l ∉ S) ∧
    (∀ k x g' H', ds[k]? = some x → J k g' H' → ∃ g2, Gs tg g' H' x g2 ∧ W tu (lp E (J (k + 1))) g2 H') ∧ ∀ g' H', J ds.length g' H' → N E g' H') : W (tFor (iList K te) tg tu) E g H := fun σ s =>
  hl σ H (Same.refl _) s _ fun H1 l vs e1 hp h1 h2 => by
    obtain ⟨J, j0, jt, jn, jd⟩ := h H1 l e1 hp ⟨vs, h1, h2⟩
    have st : ∀ k g' H', J k g' H' → H' l = some (.lst vs) ∧ Tp H1 H' := fun k g' H' hj => by
      obtain ⟨S, z, n⟩ := jt k g' H' hj
      exact ⟨z.kp _ _ h1 n, z.tp⟩
    refine ⟨l, rfl, ⟨vs, SqL.of h1⟩, for_list (K := K) (a := l) (xs := vs) (fun k => Nx (J k)) ⟨g, s.mono (tpOf e1), j0⟩ (fun k σ' H' _ ⟨g', _, hj⟩ => SqL.of (st k g' H' hj).1) ?_ ?_⟩
    · rintro k x σ' H' hx ⟨g', s', hj⟩
      obtain ⟨d, hd, hxd⟩ := h2.get' hx
      obtain ⟨g2, hg, hw⟩ := jn k d g' H' hd hj
      exact hg σ' x s' (hxd.mono (st k g' H' hj).2) _ fun σ2 s2 => hw σ2 s2
    · rintro σ' H' ⟨g', s', hj⟩
      rw [h2.length] at hj
      exact jd g' H' hj σ' s'
/-- over range(n) -/
theorem s_forR {ta : TA} {n : Int} (hl : EvA ta g H [.i n]) (hn : -(2 ^ 62) ≤ n ∧ n < 2 ^ 62) (h : ∀ H1, Same H H1 → ∃ J : Nat → Ga → Hp → Prop, J 0 g H1 ∧
    (∀ (k : Nat) g' H', (k : Int) < n → J k g' H' → ∃ g2, Gs tg g' H' (.i k) g2 ∧ W tu (lp E (J (k + 1))) g2 H') ∧ ∀ g' H', J n.toNat g' H' → N E g' H') : W (tFor (iRng1 ta) tg tu) E g H := fun σ s =>
  hl σ H (Same.refl _) s _ fun H1 vs e1 hv => by
    obtain ⟨v, r, rfl, h1, h2⟩ := hv.cons_inv
    cases h2.nil_inv; cases h1.i_inv
    obtain ⟨J, j0, jn, jd⟩ := h H1 e1
    refine ⟨n, rfl, hn.1, hn.2, for_range (lo := 0) (n := n.toNat) (fun k => Nx (J k)) ⟨g, s.mono (tpOf e1), j0⟩ ?_ ?_⟩
    · rintro k σ' H' hk ⟨g', s', hj⟩
      obtain ⟨g2, hg, hw⟩ := jn k g' H' (by omega) hj
      rw [Int.zero_add]
      exact hg σ' _ s' .i _ fun σ2 s2 => hw σ2 s2
    · rintro σ' H' ⟨g', s', hj⟩
      exact jd g' H' hj σ' s'
/-- over range(lo, n) -/
theorem s_forR2 {ta : TA} {lo n : Int} (hl : EvA ta g H [.i lo, .i n]) (hn : -(2 ^ 62) ≤ lo ∧ lo < 2 ^ 62 ∧ -(2 ^ 62) ≤ n ∧ n < 2 ^ 62) (h : ∀ H1, Same H H1 → ∃ J : Nat → Ga → Hp → Prop, J 0 g H1 ∧
    (∀ (k : Nat) g' H', lo + (k : Int) < n → J k g' H' → ∃ g2, Gs tg g' H' (.i (lo + k)) g2 ∧ W tu (lp E (J (k + 1))) g2 H') ∧ ∀ g' H', J (n - lo).toNat g' H' → N E g' H') : W (tFor (iRng2 ta) tg tu) E g H := fun σ s =>
  hl σ H (Same.refl _) s _ fun H1 vs e1 hv => by
    obtain ⟨v, r, rfl, h1, h2⟩ := hv.cons_inv
    obtain ⟨w, r, rfl, h3, h4⟩ := h2.cons_inv
    cases h4.nil_inv; cases h1.i_inv; cases h3.i_inv
    obtain ⟨J, j0, jn, jd⟩ := h H1 e1
    refine ⟨lo, n, rfl, hn, for_range (lo := lo) (n := (n - lo).toNat) (fun k => Nx (J k)) ⟨g, s.mono (tpOf e1), j0⟩ ?_ ?_⟩
    · rintro k σ' H' hk ⟨g', s', hj⟩
      obtain ⟨g2, hg, hw⟩ := jn k g' H' (by omega) hj
      exact hg σ' _ s' .i _ fun σ2 s2 => hw σ2 s2
    · rintro σ' H' ⟨g', s', hj⟩
      exact jd g' H' hj σ' s'
/-- over enumerate(a list that stands) -/
theorem s_forE {ta : TA} {l : Addr} {ds : List D} (hl : EvA ta g H [.r l]) (hls : LsD H l ds) (h : ∀ H1, Same H H1 → ∃ J : Nat → Ga → Hp → Prop, J 0 g H1 ∧ (∀ k g' H', J k g' H' → ∃ S, Fr S H1 H' ∧ l ∉ S) ∧
    (∀ (k : Nat) x g' H', ds[k]? = some x → J k g' H' → ∀ H2, Same H' H2 → ∃ g2, Gs tg g' H2 (.t [.i k, x]) g2 ∧ W tu (lp E (J (k + 1))) g2 H2) ∧ ∀ g' H', J ds.length g' H' → N E g' H') : W (tFor (iEnum K ta) tg tu) E g H := fun σ s =>
  hl σ H (Same.refl _) s _ fun H1 ws e1 hv => by
    obtain ⟨v, r, rfl, h3, h4⟩ := hv.cons_inv
    cases h4.nil_inv
    obtain ⟨vs, h1, h2⟩ := hls.mono e1
    obtain ⟨J, j0, jt, jn, jd⟩ := h H1 e1
    have st : ∀ k g' H', J k g' H' → H' l = some (.lst vs) ∧ Tp H1 H' := fun k g' H' hj => by
      obtain ⟨S, z, n⟩ := jt k g' H' hj
      exact ⟨z.kp _ _ h1 n, z.tp⟩
    refine ⟨l, vs, by rw [h3.r_inv], SqL.of h1, fun i m σ' H' => m = vs.length - i ∧ i ≤ vs.length ∧ Nx (J i) σ' H', ⟨_, rfl, Nat.zero_le _, g, s.mono (tpOf e1), j0⟩, ?_⟩
    rintro i m σ' H' ⟨rfl, hi, g', s', hj⟩
    obtain ⟨q1, q2⟩ := st i g' H' hj
    by_cases hlt : i < vs.length
    · refine .inr ⟨⟨vs, vs[i], SqL.of q1, List.getElem?_eq_getElem hlt⟩, Nx (J (i + 1)), fun σ2 H2 p => ⟨vs.length - (i + 1), by omega, rfl, hlt, p⟩, ?_⟩
      rintro x H2 ⟨T, y, rfl, hT, rfl, hy⟩
      have hy := hy vs (SqL.of q1)
      obtain ⟨d, hd, hxd⟩ := h2.get' hy
      obtain ⟨g2, hg, hw⟩ := jn i d g' H' hd hj _ (Same.new (o := .tup [.int (i : Nat), y]) hT)
      exact hg σ' _ (s'.mono (tpOf (Same.new hT))) (DT.new hT (.cons .i (.one (hxd.mono q2)))) _ fun σ2 s2 => hw σ2 s2
    · have e : i = vs.length := by omega
      subst e
      refine .inl ⟨⟨vs, SqL.of q1, Nat.le_refl _⟩, ?_⟩
      rw [h2.length] at hj
      exact jd g' H' hj σ' s'
/-- while -/
theorem s_while (J : Nat → Ga → Hp → Prop) (m0 : Nat) (j0 : J m0 g H) (h : ∀ m g' H', J m g' H' → ∃ b, EvT t g' H' b ∧ (b = true → ∀ H1, Same H' H1 → W tu (lp E fun g2 H2 => ∃ m', m' < m ∧ J m' g2 H2) g' H1) ∧ (b = false → ∀ H1, Same H' H1 → N E g' H1)) : W (tWhile t tu) E g H := fun σ s => by
  refine ⟨fun m => Nx (J m), ⟨m0, g, s, j0⟩, ?_⟩
  rintro m σ' H' ⟨g', s', hj⟩
  obtain ⟨b, ht, h1, h2⟩ := h m g' H' hj
  refine ht σ' H' (Same.refl _) s' _ fun H1 e => ?_
  cases b with
  | true => exact iteT ⟨Nx fun g2 H2 => ∃ m', m' < m ∧ J m' g2 H2, fun σ2 H2 ⟨g2, s2, m', hm, hj⟩ => ⟨m', hm, g2, s2, hj⟩, h1 rfl H1 e σ' (s'.mono (tpOf e))⟩
  | false => exact iteF (h2 rfl H1 e σ' (s'.mono (tpOf e)))
theorem q_forT {ds : List D} (hl : Ev te g H (.t ds)) (h : ∀ H1, Same H H1 → ∃ J : Nat → Ga → Hp → Prop, J 0 g H1 ∧ (∀ k g' H', J k g' H' → Tp H1 H') ∧
    (∀ k x g' H', ds[k]? = some x → J k g' H' → ∃ g2, Gs tg g' H' x g2 ∧ W tu (lp { E with nx := tz E } (J (k + 1))) g2 H') ∧ ∀ g' H', J ds.length g' H' → W tz E g' H') : W (tSeq (tFor (iTup K te) tg tu) tz) E g H := s_forT (E := { E with nx := tz E }) hl h
theorem q_forL {l : Addr} {ds : List D} (hl : Ev te g H (.r l)) (hls : LsD H l ds) (h : ∀ H1, Same H H1 → ∃ J : Nat → Ga → Hp → Prop, J 0 g H1 ∧ (∀ k g' H', J k g' H' → Fr [] H1 H' ∨ ∃ S, Fr S H1 H' ∧ l ∉ S) ∧
    (∀ k x g' H', ds[k]? = some x → J k g' H' → ∃ g2, Gs tg g' H' x g2 ∧ W tu (lp { E with nx := tz E } (J (k + 1))) g2 H') ∧ ∀ g' H', J ds.length g' H' → W tz E g' H') : W (tSeq (tFor (iList K te) tg tu) tz) E g H := s_forL (E := { E with nx := tz E }) hl hls h
theorem q_forN {ds : List D} (hl : EvL te g H ds) (h : ∀ H1 l, Same H H1 → H l = none → LsD H1 l ds → ∃ J : Nat → Ga → Hp → Prop, J 0 g H1 ∧ (∀ k g' H', J k g' H' → ∃ S, Fr S H1 H' ∧ l ∉ S) ∧
    (∀ k x g' H', ds[k]? = some x → J k g' H' → ∃ g2, Gs tg g' H' x g2 ∧ W tu (lp { E with nx := tz E } (J (k + 1))) g2 H') ∧ ∀ g' H', J ds.length g' H' → W tz E g' H') : W (tSeq (tFor (iList K te) tg tu) tz) E g H := s_forN (E := { E with nx := tz E }) hl h
theorem q_forR {ta : TA} {n : Int} (hl : EvA ta g H [.i n]) (hn : -(2 ^ 62) ≤ n ∧ n < 2 ^ 62) (h : ∀ H1, Same H H1 → ∃ J : Nat → Ga → Hp → Prop, J 0 g H1 ∧
    (∀ (k : Nat) g' H', (k : Int) < n → J k g' H' → ∃ g2, Gs tg g' H' (.i k) g2 ∧ W tu (lp { E with nx := tz E } (J (k + 1))) g2 H') ∧ ∀ g' H', J n.toNat g' H' → W tz E g' H') : W (tSeq (tFor (iRng1 ta) tg tu) tz) E g H := s_forR (E := { E with nx := tz E }) hl hn h
theorem q_forR2 {ta : TA} {lo n : Int} (hl : EvA ta g H [.i lo, .i n]) (hn : -(2 ^ 62) ≤ lo ∧ lo < 2 ^ 62 ∧ -(2 ^ 62) ≤ n ∧ n < 2 ^ 62) (h : ∀ H1, Same H H1 → ∃ J : Nat → Ga → Hp → Prop, J 0 g H1 ∧
    (∀ (k : Nat) g' H', lo + (k : Int) < n → J k g' H' → ∃ g2, Gs tg g' H' (.i (lo + k)) g2 ∧ W tu (lp { E with nx := tz E } (J (k + 1))) g2 H') ∧ ∀ g' H', J (n - lo).toNat g' H' → W tz E g' H') : W (tSeq (tFor (iRng2 ta) tg tu) tz) E g H := s_forR2 (E := { E with nx := tz E }) hl hn h
theorem q_forE {ta : TA} {l : Addr} {ds : List D} (hl : EvA ta g H [.r l]) (hls : LsD H l ds) (h : ∀ H1, Same H H1 → ∃ J : Nat → Ga → Hp → Prop, J 0 g H1 ∧ (∀ k g' H', J k g' H' → ∃ S, Fr S H1 H' ∧ l ∉ S) ∧
    (∀ (k : Nat) x g' H', ds[k]? = some x → J k g' H' → ∀ H2, Same H' H2 → ∃ g2, Gs tg g' H2 (.t [.i k, x]) g2 ∧ W tu (lp { E with nx := tz E } (J (k + 1))) g2 H2) ∧ ∀ g' H', J ds.length g' H' → W tz E g' H') : W (tSeq (tFor (iEnum K ta) tg tu) tz) E g H := s_forE (E := { E with nx := tz E }) hl hls h
theorem q_while (J : Nat → Ga → Hp → Prop) (m0 : Nat) (j0 : J m0 g H) (h : ∀ m g' H', J m g' H' → ∃ b, EvT t g' H' b ∧ (b = true → ∀ H1, Same H' H1 → W tu (lp { E with nx := tz E } fun g2 H2 => ∃ m', m' < m ∧ J m' g2 H2) g' H1) ∧ (b = false → ∀ H1, Same H' H1 → W tz E g' H1)) : W (tSeq (tWhile t tu) tz) E g H := s_while (E := { E with nx := tz E }) J m0 j0 h

/-! ### comprehensions -/
/-- the items of a comprehension over xs -/
theorem take_succ {α : Type} {xs : List α} {k : Nat} {x : α} (h : xs[k]? = some x) : xs.take (k + 1) = xs.take k ++ [x] := by
  rw [List.take_succ, h]; rfl
theorem l_lcT {α : Type} {vs : List Nat} {xs : List α} (enc : α → D) (p : α → Bool) (f : α → D) (hl : Ev te g H (.t (xs.map enc))) (hz : xs.length < sizeLine)
    (h : ∀ (k : Nat) (x : α) (H1 : Hp), Same H H1 → xs[k]? = some x → ∃ g2, GsW tg vs (wipeG g vs) H1 (enc x) g2 ∧ EvT t g2 H1 (p x) ∧ (p x = true → Ev tb g2 H1 (f x))) : EvL (tLc (iTup K te) tg t tb vs) g H ((xs.filter p).map f) := fun σ H0 e0 s Q q =>
  hl σ H0 e0 s _ fun H1 v e1 hv => by
    obtain ⟨a, ws, rfl, h1, h2⟩ := hv.t_inv
    have hlen : ws.length = xs.length := by rw [h2.length, List.length_map]
    refine ⟨a, rfl, ⟨ws, SqT.of h1⟩, fun Dl hD => ?_⟩
    refine ⟨fun i m H' => m = ws.length - i ∧ i ≤ ws.length ∧ Same H1 H' ∧ LsD H' Dl (((xs.take i).filter p).map f), ⟨_, rfl, Nat.zero_le _, Same.new hD, [], upd_same, by simp only [List.take_zero]; exact .nil⟩, ?_⟩
    rintro i m H' ⟨rfl, hi, e, hL⟩
    by_cases hlt : i < ws.length
    · refine .inr ⟨⟨ws, ws[i], SqT.of (e _ _ h1), List.getElem?_eq_getElem hlt⟩, fun H'' => (Same H1 H'' ∧ LsD H'' Dl (((xs.take (i + 1)).filter p).map f)), fun H'' ⟨a, b⟩ => ⟨ws.length - (i + 1), by omega, rfl, hlt, a, b⟩, ?_⟩
      rintro x H'' ⟨rfl, hx⟩
      have hx := hx ws (SqT.of (e _ _ h1))
      obtain ⟨d, hd, hxd⟩ := h2.get' hx
      obtain ⟨y, hy, rfl⟩ : ∃ y, xs[i]? = some y ∧ enc y = d := by
        rw [List.getElem?_map] at hd
        cases hxi : xs[i]? with
        | none => rw [hxi] at hd; cases hd
        | some y => rw [hxi] at hd; exact ⟨y, rfl, Option.some.inj hd⟩
      obtain ⟨g2, hg, ht, hb⟩ := h i y _ ((e0.trans e1).trans e) hy
      refine hg (wipe σ vs) x ((s.mono (tpOf (e1.trans e))).wipe vs) (hxd.mono (tpOf e)) _ fun σ2 s2 hw => ⟨by
        rw [hw]
        have idem : ∀ (us : List Nat), (∀ u, u ∈ us → u ∈ vs) → wipe (wipe σ vs) us = wipe σ vs := by
          intro us
          induction us with
          | nil => intro _; rfl
          | cons u us ih =>
            intro hus
            show (wipe (wipe σ vs) us).set u none = wipe σ vs
            rw [ih fun z hz => hus z (List.mem_cons_of_mem _ hz)]
            have key : ∀ (ts : List Nat), u ∈ ts → (wipe σ ts).set u none = wipe σ ts := by
              intro ts
              induction ts with
              | nil => intro hu; simp at hu
              | cons w ts ih2 =>
                intro hu
                show ((wipe σ ts).set w none).set u none = (wipe σ ts).set w none
                by_cases e : u = w
                · rw [e, List.set_set]
                · rw [← List.set_comm _ _ e, ih2 (by rcases List.mem_cons.mp hu with z | z; exact absurd z e; exact z)]
            exact key vs (hus u List.mem_cons_self)
        exact idem vs fun _ h => h, ?_⟩
      refine ht σ2 _ (Same.refl _) s2 _ fun H3 e3 => ?_
      rw [take_succ hy, List.filter_append, List.map_append]
      cases hp : p y with
      | false =>
        refine iteF ⟨e.trans e3, ?_⟩
        have : ([y].filter p).map f = [] := by simp [hp]
        rw [this, List.append_nil]
        exact hL.mono e3
      | true =>
        refine iteT (hb hp σ2 H3 e3 (s2.mono (tpOf e3)) _ fun H4 z e4 hz' => ?_)
        obtain ⟨acc, ha, hacc⟩ := hL.mono (e3.trans e4)
        have hle : acc.length ≤ i := by
          rw [hacc.length, List.length_map]
          refine Nat.le_trans (List.length_filter_le _ _) ?_
          rw [List.length_take]; omega
        refine ⟨acc, ha, by omega, ?_⟩
        have e14 : Same H1 H4 := (e.trans e3).trans e4
        have f1 : Fr [Dl] H4 (upd H4 Dl (.lst (acc ++ [z]))) := Fr.upd1 ha (fun xs q => by cases q)
        refine ⟨f1.same e14 (fun b hb => by rw [List.mem_singleton.mp hb]; exact hD), acc ++ [z], upd_same, ?_⟩
        have : ([y].filter p).map f = [f y] := by simp [hp]
        rw [this]
        exact (hacc.append (.one hz')).mono f1.tp
    · have e' : i = ws.length := by omega
      subst e'
      refine .inl ⟨⟨ws, SqT.of (e _ _ h1), Nat.le_refl _⟩, ?_⟩
      obtain ⟨acc, ha, hacc⟩ := hL
      rw [hlen, List.take_length] at hacc
      exact q H' Dl acc (e1.trans e) (e1.free hD) ha hacc
end
end Tac
namespace Tac
open PySem L2
theorem n_lp {J : Ga → Hp → Prop} {g : Ga} {H : Hp} {E : Ends} (h : J g H) : N (lp E J) g H := fun σ s => ⟨g, s, h⟩
end Tac

namespace Tac
open PySem PySem.Spec PyProof.Rows L2

/-! ### tuple * int, whatever the int -/
theorem tuple_mulS (l : Addr) (items : Array Value) (n : Nat) (dd : Option Addr) (sl : Array (Option Value)) (x : Int) (u : Tok) (c0 : (decide (x < -(2 ^ 63)) || decide (x ≥ 2 ^ 63)) = false) (c1 : (items.isEmpty || x == 1) = true) :
    Meets (Builtin.«tuple.__mul__» ⟨[.ref l, .int x u], []⟩) (fun _ R s => s.heap.get? l = some { cls := .type "tuple", dict := dd, data := .seq items n, slots := sl } ∧
      R (.ok (.ret (Value.ref l))) s) :=
  .of_wp fun prog w A R s h => by
    obtain ⟨hp, g, d, tk, os⟩ := s
    obtain ⟨hl, h⟩ := h
    have f1 := AutoSeq1.idx_int
    wp_walk using wpAny_loadPart' hl
    repeat (first
      | (refine wpAny_ite_false (decide_eq_false (by rw [c0]; exact Bool.false_ne_true)) ?_; wp_walk using wpAny_loadPart' hl)
      | (refine wpAny_ite_true (decide_eq_true (by rw [c1])) ?_; wp_walk using wpAny_loadPart' hl))
    exact ⟨_, rfl, h⟩
theorem tuple_mul0 (l : Addr) (items : Array Value) (n : Nat) (dd : Option Addr) (sl : Array (Option Value)) (x : Int) (u : Tok) (c0 : (decide (x < -(2 ^ 63)) || decide (x ≥ 2 ^ 63)) = false) (c1 : (items.isEmpty || x == 1) = false) (c2 : (decide (x ≤ 0) || items.isEmpty) = true) :
    Meets (Builtin.«tuple.__mul__» ⟨[.ref l, .int x u], []⟩) (fun _ R s => s.heap.get? l = some { cls := .type "tuple", dict := dd, data := .seq items n, slots := sl } ∧
      R (.ok (.ret (Value.ref s.heap.objs.size))) { s with heap := s.heap.push { cls := Value.type "tuple", data := Data.seq #[] }, toks := s.toks }) :=
  .of_wp fun prog w A R s h => by
    obtain ⟨hp, g, d, tk, os⟩ := s
    obtain ⟨hl, h⟩ := h
    have f1 := AutoSeq1.idx_int
    have hsz : (#[] : Array Value).size ≤ sizeLine := by rw [sizeLine_eq]; decide
    wp_walk using wpAny_loadPart' hl
    repeat (first
      | (refine wpAny_ite_false (decide_eq_false (by rw [c0]; exact Bool.false_ne_true)) ?_; wp_walk using wpAny_loadPart' hl)
      | (refine wpAny_ite_false (decide_eq_false (by rw [c1]; exact Bool.false_ne_true)) ?_; wp_walk using wpAny_loadPart' hl)
      | (refine wpAny_ite_true (decide_eq_true (by rw [c2])) ?_; wp_walk using wpAny_loadPart' hl)
      | (refine wpAny_ite_false (decide_eq_false (Nat.not_lt.mpr hsz)) ?_; wp_walk using wpAny_loadPart' hl))
    exact ⟨_, rfl, h⟩
def rMulA (K : PySem.W.Frag) : R2 := fun x y H Q => ∃ l k xs, x = .ref l ∧ y = .int k ∧ SqT K H l xs ∧ -1000 ≤ k ∧ k ≤ 1000 ∧ xs.length ≤ 1000 ∧
  (xs = [] ∨ k = 1 → Q (.ref l) H) ∧ (¬ (xs = [] ∨ k = 1) → ∀ p, H p = none → Q (.ref p) (upd H p (.tup (List.replicate k.toNat xs).flatten)))
section
variable {X : Cx}
theorem op_mulA : OpR X (binaryOp .Mult) (rMulA X.K) := by
  intro pins s σ H x y v u Q I rx ry h
  obtain ⟨l, k, xs, rfl, rfl, hT, h1, h2, hz, q1, q2⟩ := h
  by_cases hsame : xs = [] ∨ k = 1
  · cases rx
    obtain ⟨t, rfl⟩ := ry
    obtain ⟨its, r, ⟨⟨cls, dd, data, sl⟩, ho, hc, n, hd⟩, hs⟩ := I.tuple hT
    simp only at hc hd
    subst hc hd
    have c0 : (decide (k < -(2 ^ 63)) || decide (k ≥ 2 ^ 63)) = false := by
      rw [decide_eq_false (by omega), decide_eq_false (by omega)] <;> rfl
    have c1 : (its.toArray.isEmpty || k == 1) = true := by
      rcases hsame with e | e
      · subst e
        cases r
        rfl
      · subst e
        simp
    exact wpAny_binaryOp_repeat_ref (T := "tuple") (U := "int") (by decide) ⟨_, ho, rfl⟩ (fun s' => typeIs_int s' k t) noFill_tuple_mul F.fills_int_mul F.slot_int_rmul repeat_tuple F.slot_int_index.lookup
      (call_meets F.slot_int_rmul (typeIs_int s k t) F.entry_int_rmul (F.args_int_rmul_2 _ _) (int_rmul_tuple k t l its.toArray n dd sl)
        ⟨ho, rfl, ⟨_, ho, rfl⟩, call_meets F.slot_tuple_mul ⟨_, ho, rfl⟩ F.entry_tuple_mul (F.args_tuple_mul_2 _ _) (tuple_mulS l its.toArray n dd sl k t c0 c1) ⟨ho, ⟨.ref l, H, I, rfl, q1 hsame⟩⟩⟩)
  · by_cases h0 : k ≤ 0
    · cases rx
      obtain ⟨t, rfl⟩ := ry
      obtain ⟨its, r, ⟨⟨cls, dd, data, sl⟩, ho, hc, n, hd⟩, hs⟩ := I.tuple hT
      simp only at hc hd
      subst hc hd
      have hn : xs ≠ [] := fun e => hsame (.inl e)
      have hi : its.toArray.isEmpty = false := by
        cases r with
        | nil => exact absurd rfl hn
        | cons _ _ => simp
      have c0 : (decide (k < -(2 ^ 63)) || decide (k ≥ 2 ^ 63)) = false := by
        rw [decide_eq_false (by omega), decide_eq_false (by omega)] <;> rfl
      have c1 : (its.toArray.isEmpty || k == 1) = false := by
        rw [hi, Bool.false_or]
        exact beq_eq_false_iff_ne.mpr (by omega)
      have c2 : (decide (k ≤ 0) || its.toArray.isEmpty) = true := by
        rw [decide_eq_true h0]; rfl
      refine wpAny_binaryOp_repeat_ref (T := "tuple") (U := "int") (by decide) ⟨_, ho, rfl⟩ (fun s' => typeIs_int s' k t) noFill_tuple_mul F.fills_int_mul F.slot_int_rmul repeat_tuple F.slot_int_index.lookup
        (call_meets F.slot_int_rmul (typeIs_int s k t) F.entry_int_rmul (F.args_int_rmul_2 _ _) (int_rmul_tuple k t l its.toArray n dd sl)
          ⟨ho, rfl, ⟨_, ho, rfl⟩, call_meets F.slot_tuple_mul ⟨_, ho, rfl⟩ F.entry_tuple_mul (F.args_tuple_mul_2 _ _) (tuple_mul0 l its.toArray n dd sl k t c0 c1 c2) ⟨ho, ?_⟩⟩)
      have q := q2 hsame _ (I.hok.fresh (Nat.le_refl _))
      have e0 : k.toNat = 0 := by omega
      rw [e0] at q
      refine ⟨.ref s.heap.objs.size, _, I.laid (t' := s.toks) (o := .tup []) (fun b ob q => Heap.get?_push_of_some _ q) (Nat.le_refl _) ?_, rfl, q⟩
      exact ⟨Nat.zero_le _, _, .nil, IsTup.new _ _⟩
    · exact op_repT pins s σ H _ _ v u Q I rx ry ⟨l, k, xs, rfl, rfl, hT, fun e => hsame (.inl e), by omega, h2, hz, q2 hsame⟩

/-! ### t[::-1] of a tuple -/
theorem getItem_tuple_rev {prog : Program} {w : World} {A : Around} {E : Value → Shared → Prop} {s : Shared} {t sl : Addr} {items : Array Value} {vs : Value} {Q : Value → Shared → Prop} (ht : IsTup s.heap t items) (hs : s.heap.IsSliceOf sl .none .none vs) (ps : IsPart vs (some (-1)))
    (h : Q (.ref s.heap.objs.size) { s with heap := s.heap.push { cls := .type "tuple", data := .seq items.toList.reverse.toArray } })
    (hsz : items.size ≤ sizeLine) : wpAny (model prog w) A (getItem (.ref t) (.ref sl)) Q E s := by
  have htake : sizeOk (.seq items.toList.reverse.toArray) := by
    show (items.toList.reverse.toArray).size ≤ sizeLine
    rw [List.size_toArray, List.length_reverse, Array.length_toList]
    exact hsz
  obtain ⟨os, hos, hcs, hds⟩ := id hs
  have hTs : s.TypeIs (.ref sl) "slice" := ⟨os, hos, hcs⟩
  unfold getItem
  try with_reducible refine wpAny_holding ?_
  first | refine wpAny_bind (wpAny_pure ?_) | skip
  refine wpAny_bind (wpAny_sequenceKey ht.typeIs (by decide) ?_)
  refine wpAny_bind (wpAny_callSpecial?_slot (name := Str.ofString "__getitem__") ht.typeIs PyProof.Rows.slot_tuple_getitem
    (wpAny_call_entry PyProof.Rows.slot_tuple_getitem ht.typeIs entry_tuple_getitem ?_ (args_tuple_getitem _ _)))
  show wpAny _ _ (Builtin.Tuple.tupleItemsOf (.ref t) >>= _) _ _ s
  refine wpAny_bind (tupleItemsOf_ ht ?_)
  refine wpAny_bind (wpAny_typeOf hTs ?_)
  rw [if_pos (by decide)]
  have step : ∀ {Q : Int × Int × Nat → Shared → Prop}, Q ((items.size : Int) - 1, -1, items.size) s → wpAny (model prog w) A.in1 (Builtin.Slice.sliceApplied (.ref sl) (pure (items.size : Int))) Q E s := by
    intro Q hq
    unfold Builtin.Slice.sliceApplied Builtin.Slice.sliceFields
    refine wpAny_bind (wpAny_bind (wpAny_field hos hds (x := .none) rfl (wpAny_bind (wpAny_field hos hds (x := .none) rfl (wpAny_bind (wpAny_field hos hds (x := vs) rfl (wpAny_pure ?_)))))))
    refine wpAny_bind (HT.slicePart_ ps ?_)
    show wpAny _ _ (if ((-1 : Int) == 0) = true then _ else _) _ _ s
    rw [if_neg (by decide)]
    refine wpAny_bind (HT.slicePart_ IsPart.none (wpAny_bind (HT.slicePart_ IsPart.none (wpAny_bind (wpAny_pure ?_)))))
    show wpAny _ _ (pure ((items.size : Int) - 1, (-1 : Int), Builtin.Slice.slicePlaces ((items.size : Int) - 1) (-1) (-1))) _ _ s
    have e : Builtin.Slice.slicePlaces ((items.size : Int) - 1) (-1) (-1) = items.size := by
      unfold Builtin.Slice.slicePlaces
      rw [if_neg (by decide)]
      by_cases h : (items.size : Int) - 1 > -1
      · rw [if_pos h]
        have : ((items.size : Int) - 1 - -1 - 1) / (- -1) + 1 = (items.size : Int) := by
          rw [show (- -1 : Int) = 1 by decide, Int.ediv_one]; omega
        rw [this]; rfl
      · rw [if_neg h]; omega
    rw [e]
    exact wpAny_pure hq
  have epick : ((List.range items.size).filterMap fun (k : Nat) => items[((items.size : Int) - 1 + (k : Int) * -1).toNat]?).toArray = items.toList.reverse.toArray := by
    have e1 : (fun (k : Nat) => items[((items.size : Int) - 1 + (k : Int) * -1).toNat]?) = fun k => items[items.size - 1 - k]? := by
      funext k
      have : ((items.size : Int) - 1 + (k : Int) * -1).toNat = items.size - 1 - k := by omega
      rw [this]
    rw [e1]
    have h2 := PySem.W.krv_range items.size
    have h3 : (List.range items.size).filterMap (fun k => items[items.size - 1 - k]?) = ((List.range items.size).map (fun k => items.size - 1 - k)).filterMap (items[·]?) := by
      rw [List.filterMap_map]; rfl
    rw [h3, h2, List.filterMap_reverse, PySem.W.krv_all]
  refine wpAny_bind (step ?_)
  have hno : ¬ (((items.size : Int) - 1 == 0 && (-1 : Int) == 1 && items.size == items.size) = true) := by
    intro q
    rw [Bool.and_eq_true, Bool.and_eq_true] at q
    exact absurd q.1.2 (by decide)
  show wpAny _ _ (if ((items.size : Int) - 1 == 0 && (-1 : Int) == 1 && items.size == items.size) = true then _ else _) _ _ s
  rw [if_neg hno, epick]
  first
    | exact wpAny_bind (m := Builtin.Tuple.tupleExact _) (wpAny_newObj_type (wpAny_pure ⟨_, rfl, wpAny_pure h⟩) htake)
    | exact wpAny_bind (m := Builtin.Tuple.tupleExact _) (wpAny_newObj_type (wpAny_bind (wpAny_pure (wpAny_pure ⟨_, rfl, wpAny_pure h⟩))) htake)
    | exact wpAny_bind (wpAny_bind (m := Builtin.Tuple.tupleExact _) (wpAny_newObj_type (wpAny_pure (wpAny_pure ⟨_, rfl, wpAny_pure h⟩)) htake))
    | exact wpAny_bind (wpAny_bind (m := Builtin.Tuple.tupleExact _) (wpAny_newObj_type (wpAny_pure ⟨_, rfl, wpAny_pure h⟩) htake))
def tRevT (K : PySem.W.Frag) (te : TE) : TE := fun σ H Q => te σ H fun x H1 => ∃ a xs, x = .ref a ∧ SqT K H1 a xs ∧ ∀ p, H1 p = none → Q (.ref p) (upd H1 p (.tup xs.reverse))
theorem pe_revT {e : Expr} {te : TE} {k : Nat} {p1 p2 p3 pos : Pos} (he : PE X e te) : PE X (.Subscript e (.Slice none none (some (.UnaryOp .USub (.Constant (.int 1) k p1) p2)) p3) pos) (tRevT X.K te) := by
  refine ⟨fun pins s σ H Q I h => ?_⟩
  refine Subscript_ (thn (he.run pins s σ H _ I h) fun v s1 ⟨x, H1, I1, r1, q1⟩ => ?_)
  obtain ⟨a, xs, ex, hx, q⟩ := q1
  subst ex
  cases r1
  have hst : PO X (some (.UnaryOp .USub (.Constant (.int 1) k p1) p2)) (tPart (tUn (rU fun i => .int (-i)) (tC (.int 1)))) := po_some (pe_un un_neg pe_int)
  have hpn : ∀ s (Q : Value → Shared → Prop), Q .none s → wpAny (model X.prog X.w) X.A (evalPart (none : Option Expr) X.env) Q X.xe s := by
    intro s Q hq
    rw [evalPart_none]
    exact wpAny_pure hq
  refine wpAny_Slice (hpn _ _ (hpn _ _ ?_))
  refine thn (hst.run pins s1 σ H1 (fun o H4 => o = some (-1) ∧ H4 = H1) I1 ⟨1, rfl, -1, rfl, rfl, rfl⟩) fun vs s4 ⟨o, H4, I4, ps, eo, e4⟩ => ?_
  subst eo e4
  have I5 : Inv X pins σ H4 { s4 with heap := s4.heap.push { cls := .type "slice", data := .fields #[.none, .none, vs] } } := I4.kept (t' := s4.toks) fun b ob q => Heap.get?_push_of_some _ q
  obtain ⟨its, r, ht, hz⟩ := I5.tuple hx
  have hlen := r.length
  show wpAny (model X.prog X.w) X.A (subscriptTail e (.Slice none none (some (.UnaryOp .USub (.Constant (.int 1) k p1) p2)) p3) (.ref a) (.ref s4.heap.objs.size)) (EP X pins σ Q) X.xe { s4 with heap := s4.heap.push { cls := .type "slice", data := .fields #[.none, .none, vs] } }
  refine tail_any (ops := [.ref a, .ref s4.heap.objs.size]) ht.typeIs (PyProof.Rows.slot_tuple_getitem.lookup) ?_ (by with_unfolding_all rfl)
  refine getItem_tuple_rev ht (Heap.IsSliceOf.new _ .none .none vs) ps ?_ (by rw [List.size_toArray]; omega)
  refine ⟨.ref _, _, I5.laid (t' := s4.toks) (o := .tup xs.reverse) (fun b ob q => Heap.get?_push_of_some _ q) (Nat.le_refl _) ?_, rfl, q _ (I5.hok.fresh (Nat.le_refl _))⟩
  exact ⟨by rw [List.length_reverse]; exact hz, _, r.reverse, IsTup.new _ _⟩
end
end Tac

namespace Tac
open PySem PySem.Spec PyProof.Rows L2
/-! ### enumerate(tuple) -/
theorem meets_enumerate_newT (l : Addr) (items : Array Value) (n : Nat) (dct : Option Addr) (sl : Array (Option Value)) :
    Meets (Builtin.«enumerate.__new__» ⟨[.type "enumerate", .ref l], []⟩) (fun _ R s => s.heap.get? l = some { cls := .type "tuple", dict := dct, data := .seq items n, slots := sl } ∧
      R (.ok (.ret (.ref (s.heap.push { cls := .type "tuple_iterator", data := .fields #[.ref l, .int 0 0] }).objs.size)))
        { s with heap := (s.heap.push { cls := .type "tuple_iterator", data := .fields #[.ref l, .int 0 0] }).push { cls := .type "enumerate", data := .fields #[.none, .bool false, .ref s.heap.objs.size, rawInt 0, .none, .none] } }) :=
  .of_wp fun prog w A R s h => by
    obtain ⟨hp, g, d, tk, os⟩ := s; obtain ⟨hl, h⟩ := h
    have hsub := sub_enumerate
    have hL : Heap.IsTuple (Shared.heap ⟨hp, g, d, tk, os⟩) l items := ⟨_, hl, rfl, n, rfl⟩
    wp_walk using AutoSeq1.wpAny_loadPart' hl
    refine wpAny_stack_any fun st => wpAny_pure ?_
    split
    · rename_i c _ _ _ _ _
      cases (c == Value.type "enumerate")
      · wp_walk using AutoSeq1.wpAny_loadPart' hl, wpAny_pyIter_tuple hL
        exact ⟨_, rfl, h⟩
      · wp_walk using AutoSeq1.wpAny_loadPart' hl, wpAny_pyIter_tuple hL
        exact ⟨_, rfl, h⟩
    · wp_walk using AutoSeq1.wpAny_loadPart' hl, wpAny_pyIter_tuple hL
      exact ⟨_, rfl, h⟩
theorem call_enumerate_tuple {prog : Program} {w : World} {A : Around} {E : Value → Shared → Prop} {s : Shared} {l : Addr} {items : Array Value} {Q : Value → Shared → Prop} (hL : s.heap.IsTuple l items)
    (h : ∀ h', IsEnum h' (s.heap.objs.size + 1) s.heap.objs.size 0 .none → h'.IsTupleIter s.heap.objs.size l 0 → h'.objs.size = s.heap.objs.size + 2 →
      (∀ b o, s.heap.get? b = some o → h'.get? b = some o) → Q (.ref (s.heap.objs.size + 1)) { s with heap := h' }) :
    wpAny (model prog w) A (call (.type "enumerate") [.ref l]) Q E s := by
  obtain ⟨⟨c, dct, dt, sl⟩, hl, hc, n, hd⟩ := hL
  replace hc : c = .type "tuple" := hc
  replace hd : dt = .seq items n := hd
  subst hc hd
  refine callType_new F.called_enumerate (by decide) (F.typeCall_enumerate_1 _) (F.newCall_enumerate_1 _) (fun obj => F.args_object_init_2 obj _) F.entry_enumerate_new
    (meets_enumerate_newT l items n dct sl) ⟨hl, ?_⟩
  have hz : (s.heap.push { cls := .type "tuple_iterator", data := .fields #[.ref l, .int 0 0] }).objs.size = s.heap.objs.size + 1 := Heap.size_push ..
  show _ ∧ _
  rw [hz]
  have he : IsEnum ((s.heap.push { cls := .type "tuple_iterator", data := .fields #[.ref l, .int 0 0] }).push
      { cls := .type "enumerate", data := .fields #[.none, .bool false, .ref s.heap.objs.size, rawInt 0, .none, .none] }) (s.heap.objs.size + 1) s.heap.objs.size 0 .none := by
    have := Heap.get?_push_size (s.heap.push { cls := .type "tuple_iterator", data := .fields #[.ref l, .int 0 0] })
      (o := { cls := .type "enumerate", data := .fields #[.none, .bool false, .ref s.heap.objs.size, rawInt 0, .none, .none] }) rfl
    rw [hz] at this; exact this
  refine ⟨⟨_, he, rfl⟩, h _ he ⟨_, Heap.get?_push_of_some _ (Heap.get?_push_size _ rfl), rfl, rfl⟩ (by rw [Heap.size_push, hz]) fun b o x => Heap.get?_push_of_some _ (Heap.get?_push_of_some _ x)⟩
/-- the tuple at a, each item in a new pair -/
def IteT (K : PySem.W.Frag) (a : Addr) : It :=
  ⟨fun i H => ∃ (xs : List V) (x : V), SqT K H a xs ∧ xs[i]? = some x, fun i H v H' => ∃ T x, v = .ref T ∧ H T = none ∧ H' = upd H T (.tup [.int (i : Nat), x]) ∧ ∀ xs, SqT K H a xs → xs[i]? = some x, fun i H => ∃ xs : List V, SqT K H a xs ∧ xs.length ≤ i⟩
theorem turn_enumT {P : Program} {w : World} {K : PySem.W.Frag} {elts : List Expr} {kk : Nat} {tpos : Pos} (a e it : Addr) :
    Turn P w K (.Tuple elts kk tpos) (IteT K a) [e, it] e (fun i h => (∃ old, IsEnum h e it ((i : Nat) : Int) old) ∧ h.IsTupleIter it a i ∧ e ≠ it ∧ e ≠ a ∧ a ≠ it) where
  mem := by simp
  obj := fun i h st b hb => by
    obtain ⟨⟨old, he⟩, ⟨o, ho, hc, hd⟩, _⟩ := st
    have e' : b = e ∨ b = it := by simpa using hb
    rcases e' with z | z
    · rw [z]; exact ⟨_, he, fun v q => nomatch q⟩
    · rw [z]; exact ⟨o, ho, fun v q => by rw [hd] at q; cases q⟩
  keep := fun i h h' st k => let ⟨⟨old, he⟩, hi, hne⟩ := st; ⟨⟨old, k e (by simp) _ he⟩, hi.at fun o q => k it (by simp) o q, hne⟩
  item := by
    intro X hP hw hK hc i pins s σ H E I hf st hg
    subst hP hw hK
    obtain ⟨⟨old, he⟩, hit, hne, hea, hai⟩ := st
    obtain ⟨xs, x, hq, hx⟩ := hg
    obtain ⟨its, rv, p, hz⟩ := I.tuple hq
    have p' : s.heap.IsTuple a its.toArray := p
    obtain ⟨u, hu, ru⟩ := rv.get hx
    have hel : e < s.heap.objs.size := Heap.lt_size he
    have hil : it < s.heap.objs.size := by obtain ⟨_, q, _⟩ := hit; exact Heap.lt_size q
    have hlt : i < its.toArray.size := by rw [List.size_toArray]; exact (List.getElem?_eq_some_iff.mp hu).1
    refine wpAny_pyNext_enum_itemD (Draws.tuple (prog := X.prog) (w := X.w) (A := X.A.in1) (show X.A.in1.handled = none from I.ok.hd hc) it a hai its.toArray) he ⟨hit, p'⟩ hlt hne (by simp [hne, hea]) fun y h' tk hP ho hst' hT hsz hk => ?_
    have hy : y = u := by
      have h1 : its.toArray[i]? = some y := hP
      rw [show its.toArray[i]? = its[i]? by simp, hu] at h1
      exact (Option.some.inj h1).symm
    subst hy
    refine ⟨_, rfl, wpAny_letOwnedTupleGo_enum (s := { s with heap := h', toks := tk + 1 }) ho fun h'' he' sb => ?_⟩
    have hT2 : h''.get? s.heap.objs.size = some { cls := .type "tuple", data := .seq #[.int i tk, y] } := (sb.2 _ (Nat.ne_of_gt hel)).trans hT
    have new : ObjOk X.prog X.w (upd H s.heap.objs.size (.tup [.int (i : Nat), x])) h'' s.heap.objs.size (.tup [.int (i : Nat), x]) :=
      ⟨by show 2 ≤ sizeLine; decide, [.int i tk, y], .cons ⟨_, rfl⟩ (.cons ru .nil), ⟨_, hT2, rfl, _, rfl⟩⟩
    have I1 : Inv X pins σ (upd H s.heap.objs.size (.tup [.int (i : Nat), x])) { s with heap := h'', toks := tk + 1 } :=
      I.turnedNew (ch := [e, it]) (fun b ob hb q => (sb.2 b (fun z => hb (by simp [z]))).trans (hk b ob (fun z => hb (by simp [z])) (fun z => hb (by simp [z])) q)) hf (Nat.le_refl _) new
    refine ⟨.ref s.heap.objs.size, _, I1, rfl, ⟨_, x, rfl, I.hok.fresh (Nat.le_refl _), rfl, fun ys hy => by rw [I.tuple_inj hy hq]; exact hx⟩, ⟨⟨y, ?_⟩, hst'.1.at fun o q => (sb.2 it (Ne.symm hne)).trans q, hne, hea, hai⟩, fun b hb => ?_⟩
    · have e1 : ((i + 1 : Nat) : Int) = (i : Int) + 1 := by omega
      rw [e1]; exact he'
    · have hb' : b < s.heap.objs.size := by
        have e' : b = e ∨ b = it := by simpa using hb
        rcases e' with z | z
        · rw [z]; exact hel
        · rw [z]; exact hil
      rw [upd_ne (Nat.ne_of_lt hb')]
      exact (hf b hb).1
  done := by
    intro X hP hw hK hc i pins s σ H E I hf st hg
    subst hP hw hK
    obtain ⟨⟨old, he⟩, hit, hne, hea, hai⟩ := st
    obtain ⟨xs, hq, hx⟩ := hg
    obtain ⟨its, rv, p, hz⟩ := I.tuple hq
    have p' : s.heap.IsTuple a its.toArray := p
    obtain ⟨f0, f1, f2, f3, f4, f5⟩ := hf it (by simp)
    have hl := rv.length
    have hT : s.TypeIs (.ref e) "enumerate" := ⟨_, he, rfl⟩
    unfold pyNext
    refine wpAny_bind (wpAny_attempt (wpAny_callSpecial?_slot (name := Str.ofString "__next__") hT F.slot_enumerate_next
      (wpAny_call_entry F.slot_enumerate_next hT F.entry_enumerate_next ?_ (F.args_enumerate_next_1 _))))
    show wpAny _ _ (field (.ref e) 2 >>= _) _ _ _
    refine wpAny_bind (wpAny_field he rfl (x := .ref it) rfl ?_)
    refine wpAny_bind (wpAny_nextOf_tuple_end (I.ok.hd hc) hit p' (by simp; omega) fun h' x he' hx' => ?_)
    obtain ⟨o, ho, hc'⟩ := hx'
    refine wpAny_bind (wpAny_isInstance (T := "StopIteration") (b := true) ⟨o, ho, hc'⟩ isSubtype_stop ?_)
    exact wpAny_pure ⟨rfl, I.turned (t' := s.toks) (fun b o hb q => he' b o hb q) f0 f1 f3 f4 f5⟩
  self := fun A i s Q E st h => let ⟨⟨_, he⟩, _⟩ := st; wpAny_pyIter_enum he h
def iEnumT (K : PySem.W.Frag) (ta : TA) : TI := fun σ H R => ta σ H fun vs H1 => ∃ a xs, vs = [.ref a] ∧ SqT K H1 a xs ∧ R (IteT K a) H1
theorem pi_enumT {X : Cx} {e : Expr} {ta : TA} {p pos tpos : Pos} {elts : List Expr} {kk : Nat} (hg : Gl X "enumerate") (hm : X.mg "enumerate" = none) (ha : PA X [e] ta) (hs : starEach [e] X.env = [(false, eval e X.env)] := by rfl) :
    PI X (.Tuple elts kk tpos) (.Call (.Name "enumerate" p) [e] [] pos) (iEnumT X.K ta) := by
  refine ⟨fun pins s σ H R I h => ?_⟩
  refine Call_ (ld_blt I hg hm boot_enumerate (PyProof.Rows.callWith_type1 (thn (ha.run pos pins s σ H _ I h) fun us s1 ⟨vs, H1, I1, r1, q1⟩ => ?_) hs rfl))
  obtain ⟨a, xs, ex, hq, q⟩ := q1
  subst ex
  cases r1 with
  | cons r rr =>
    cases rr
    cases r
    obtain ⟨its, rv, p', hz⟩ := I1.tuple hq
    have hal : a < s1.heap.objs.size := p'.lt
    refine call_enumerate_tuple (show s1.heap.IsTuple a its.toArray from p') fun h' he hit hsz hk => wpAny_pyIter_enum he ?_
    have I2 : Inv X pins σ H1 { s1 with heap := h' } := I1.kept (t' := s1.toks) hk
    refine ⟨s1.heap.objs.size + 1, [s1.heap.objs.size + 1, s1.heap.objs.size], _, _, H1, rfl, I2, turn_enumT a (s1.heap.objs.size + 1) s1.heap.objs.size, ⟨⟨.none, he⟩, hit, Nat.succ_ne_self _, Nat.ne_of_gt (Nat.lt_succ_of_lt hal), Nat.ne_of_lt hal⟩, fun b hb => ?_, q⟩
    have e' : b = s1.heap.objs.size + 1 ∨ b = s1.heap.objs.size := by simpa using hb
    have hle : s1.heap.objs.size ≤ b := by
      rcases e' with z | z
      · rw [z]; exact Nat.le_add_right _ _
      · rw [z]; exact Nat.le_refl _
    exact I1.fpOk hle (I1.hok.fresh hle)
section
variable {K : PySem.W.Frag} {g : Ga} {H H' : Hp} {E : Ends} {tz tu : TS} {tg : TG}
/-- over enumerate(a tuple) -/
theorem s_forET {ta : TA} {ds : List D} (hl : EvA ta g H [.t ds]) (h : ∀ H1, Same H H1 → ∃ J : Nat → Ga → Hp → Prop, J 0 g H1 ∧ (∀ k g' H', J k g' H' → Tp H1 H') ∧
    (∀ (k : Nat) x g' H', ds[k]? = some x → J k g' H' → ∀ H2, Same H' H2 → ∃ g2, Gs tg g' H2 (.t [.i k, x]) g2 ∧ W tu (lp E (J (k + 1))) g2 H2) ∧ ∀ g' H', J ds.length g' H' → N E g' H') : W (tFor (iEnumT K ta) tg tu) E g H := fun σ s =>
  hl σ H (Same.refl _) s _ fun H1 ws e1 hv => by
    obtain ⟨v, r, rfl, h3, h4⟩ := hv.cons_inv
    cases h4.nil_inv
    obtain ⟨l, vs, rfl, h1, h2⟩ := h3.t_inv
    obtain ⟨J, j0, jt, jn, jd⟩ := h H1 e1
    refine ⟨l, vs, rfl, SqT.of h1, fun i m σ' H' => m = vs.length - i ∧ i ≤ vs.length ∧ Nx (J i) σ' H', ⟨_, rfl, Nat.zero_le _, g, s.mono (tpOf e1), j0⟩, ?_⟩
    rintro i m σ' H' ⟨rfl, hi, g', s', hj⟩
    have q2 := jt i g' H' hj
    have q1 := q2 _ _ h1
    by_cases hlt : i < vs.length
    · refine .inr ⟨⟨vs, vs[i], SqT.of q1, List.getElem?_eq_getElem hlt⟩, Nx (J (i + 1)), fun σ2 H2 p => ⟨vs.length - (i + 1), by omega, rfl, hlt, p⟩, ?_⟩
      rintro x H2 ⟨T, y, rfl, hT, rfl, hy⟩
      have hy := hy vs (SqT.of q1)
      obtain ⟨d, hd, hxd⟩ := h2.get' hy
      obtain ⟨g2, hg, hw⟩ := jn i d g' H' hd hj _ (Same.new (o := .tup [.int (i : Nat), y]) hT)
      exact hg σ' _ (s'.mono (tpOf (Same.new hT))) (DT.new hT (.cons .i (.one (hxd.mono q2)))) _ fun σ2 s2 => hw σ2 s2
    · have e : i = vs.length := by omega
      subst e
      refine .inl ⟨⟨vs, SqT.of q1, Nat.le_refl _⟩, ?_⟩
      rw [h2.length] at hj
      exact jd g' H' hj σ' s'
theorem q_forET {ta : TA} {ds : List D} (hl : EvA ta g H [.t ds]) (h : ∀ H1, Same H H1 → ∃ J : Nat → Ga → Hp → Prop, J 0 g H1 ∧ (∀ k g' H', J k g' H' → Tp H1 H') ∧
    (∀ (k : Nat) x g' H', ds[k]? = some x → J k g' H' → ∀ H2, Same H' H2 → ∃ g2, Gs tg g' H2 (.t [.i k, x]) g2 ∧ W tu (lp { E with nx := tz E } (J (k + 1))) g2 H2) ∧ ∀ g' H', J ds.length g' H' → W tz E g' H') : W (tSeq (tFor (iEnumT K ta) tg tu) tz) E g H := s_forET (E := { E with nx := tz E }) hl h
end
end Tac

namespace Tac
open PySem PySem.Spec PyProof.Rows L2

/-! ### data as the library's data, as keys -/
mutual
def toP : D → PyData
  | .n => .none
  | .b x => .bool x
  | .i x => .int x
  | .t xs => .tuple (toPs xs)
  | .r _ => .none
def toPs : List D → List PyData
  | [] => []
  | x :: xs => toP x :: toPs xs
end
mutual
def toK : D → NestedKey
  | .n => .none
  | .b x => .num (if x = true then 1 else 0)
  | .i x => .num x
  | .t xs => .tup (toKs xs)
  | .r _ => .none
def toKs : List D → List NestedKey
  | [] => []
  | x :: xs => toK x :: toKs xs
end
mutual
def pureD : D → Bool
  | .t xs => pureDs xs
  | .r _ => false
  | _ => true
def pureDs : List D → Bool
  | [] => true
  | x :: xs => pureD x && pureDs xs
end
mutual
theorem DT.dp {K : PySem.W.Frag} {H : Hp} : ∀ {v : V} {d : D}, DT H v d → pureD d = true → Dp K H v (toP d)
  | _, _, .n, _ => .non
  | _, _, .b, _ => .bl _
  | _, _, .i, _ => .int _
  | _, _, .t h hs, p => .tup (SqT.of h) (DTs.dp hs p)
theorem DTs.dp {K : PySem.W.Frag} {H : Hp} : ∀ {vs : List V} {ds : List D}, DTs H vs ds → pureDs ds = true → DpAll K H vs (toPs ds)
  | _, _, .nil, _ => .nil
  | _, _, .cons h hs, p => by
    have q := Bool.and_eq_true_iff.mp p
    exact .cons (DT.dp h q.1) (DTs.dp hs q.2)
end
section
variable {P : Program} {w : World} {H : Hp} {h : Heap}
mutual
theorem DT.nk (ok : HOk P w H h) : ∀ {v : V} {d : D} {u : Value}, DT H v d → pureD d = true → RelV v u → NestedIs h (toK d) u
  | _, _, _, .n, _, r => by
    cases r
    exact .none
  | _, _, _, .b, _, r => by
    cases r
    exact .bool rfl
  | _, _, _, .i, _, r => by
    obtain ⟨t, rfl⟩ := r
    exact .int _ _
  | _, _, _, .t e hs, p, r => by
    cases r
    obtain ⟨_, its, rv, o, h1, h2, n, h3⟩ := ok _ _ e
    exact .tup h1 h2 h3 (DTs.nk ok hs p rv)
theorem DTs.nk (ok : HOk P w H h) : ∀ {vs : List V} {ds : List D} {us : List Value}, DTs H vs ds → pureDs ds = true → Vals vs us → NestedAll h (toKs ds) us
  | _, _, _, .nil, _, .nil => .nil
  | _, _, _, .cons e hs, p, .cons r rs => by
    have q := Bool.and_eq_true_iff.mp p
    exact .cons (DT.nk ok e q.1 r) (DTs.nk ok hs q.2 rs)
end
end

/-! ### words: == and != -/
theorem toPs_ints : ∀ xs : List Int, toPs (xs.map D.i) = xs.map PyData.int
  | [] => rfl
  | x :: xs => by
    show toP (.i x) :: toPs (xs.map D.i) = _
    rw [toPs_ints xs]; rfl
theorem pureDs_ints : ∀ xs : List Int, pureDs (xs.map D.i) = true
  | [] => rfl
  | x :: xs => by
    show (pureD (.i x) && pureDs (xs.map D.i)) = true
    rw [pureDs_ints xs]; rfl
theorem eqv_ints : ∀ xs ys : List Int, PyData.eqvAll (xs.map PyData.int) (ys.map PyData.int) = decide (xs = ys)
  | [], [] => rfl
  | [], y :: ys => by simp [PyData.eqvAll]
  | x :: xs, [] => by simp [PyData.eqvAll]
  | x :: xs, y :: ys => by
    show (PyData.eqv (.int x) (.int y) && PyData.eqvAll (xs.map PyData.int) (ys.map PyData.int)) = _
    rw [eqv_ints xs ys]
    simp only [PyData.eqv]
    by_cases h : x = y <;> by_cases h2 : xs = ys <;> simp [h, h2]
theorem shaped_ints (xs : List Int) : SeqAt.shaped (.tuple (xs.map PyData.int)) = true := by
  have h1 : ∀ xs : List Int, PyData.canLayAll0 (xs.map PyData.int) = true := by
    intro xs
    induction xs with
    | nil => rfl
    | cons x xs ih =>
      show (PyData.canLay0 (.int x) && PyData.canLayAll0 (xs.map PyData.int)) = true
      rw [ih]; rfl
  have h2 : ∀ xs : List Int, PyData.depthAll (xs.map PyData.int) = 0 := by
    intro xs
    induction xs with
    | nil => rfl
    | cons x xs ih =>
      show max (PyData.depth (.int x)) (PyData.depthAll (xs.map PyData.int)) = 0
      rw [ih]; rfl
  unfold SeqAt.shaped
  show (PyData.canLayAll0 (xs.map PyData.int) && decide (PyData.depthAll (xs.map PyData.int) + 1 ≤ 64)) = true
  rw [h1, h2]; rfl
/-- a word: a tuple of ints -/
abbrev wD (xs : List Int) : D := .t (xs.map D.i)
section
variable {K : PySem.W.Frag} {g : Ga} {H H' : Hp} {ta tb tc te : TE} {t u : TT} {d e : D}
theorem DT.dpw {v : V} {xs : List Int} (h : DT H v (wD xs)) : Dp K H v (.tuple (xs.map PyData.int)) := by
  have := DT.dp (K := K) h (pureDs_ints xs)
  rw [← toPs_ints]; exact this
theorem e_eqD {xs ys : List Int} (ha : Ev ta g H (wD xs)) (hb : Ev tb g H (wD ys)) : Ev (tOp (rEqD K) ta tb) g H (.b (decide (xs = ys))) :=
  e_op2 ha hb fun H1 v w _ hv hw Q q => ⟨_, _, hv.dpw, hw.dpw, shaped_ints xs, shaped_ints ys, q H1 _ (Same.refl _) (by
    show DT H1 (.bl (PyData.eqvAll (xs.map PyData.int) (ys.map PyData.int))) _
    rw [eqv_ints]; exact .b)⟩
theorem e_neD {xs ys : List Int} (ha : Ev ta g H (wD xs)) (hb : Ev tb g H (wD ys)) : Ev (tOp (rNeD K) ta tb) g H (.b (!decide (xs = ys))) :=
  e_op2 ha hb fun H1 v w _ hv hw Q q => ⟨_, _, hv.dpw, hw.dpw, shaped_ints xs, shaped_ints ys, q H1 _ (Same.refl _) (by
    show DT H1 (.bl (!PyData.eqvAll (xs.map PyData.int) (ys.map PyData.int))) _
    rw [eqv_ints]; exact .b)⟩
/-- tuple * int -/
theorem e_rep {ds : List D} {k : Int} (hk : -1000 ≤ k ∧ k ≤ 1000 ∧ ds.length ≤ 1000) (ha : Ev ta g H (.t ds)) (hb : Ev tb g H (.i k)) : Ev (tOp (rMulA K) ta tb) g H (.t (List.replicate k.toNat ds).flatten) :=
  e_op2 ha hb fun H1 v w _ hv hw Q q => by
    obtain ⟨a, vs, rfl, h1, h2⟩ := hv.t_inv
    refine ⟨a, k, vs, rfl, hw.i_inv, SqT.of h1, hk.1, hk.2.1, by rw [h2.length]; exact hk.2.2, fun hs => ?_, fun hs p hp => q _ _ (Same.new hp) (DT.new hp (h2.flat _))⟩
    have e : (List.replicate k.toNat ds).flatten = ds := by
      rcases hs with z | z
      · subst z
        cases h2
        have key : ∀ n : Nat, (List.replicate n ([] : List D)).flatten = [] := by
          intro n
          induction n with
          | zero => rfl
          | succ n ih => rw [List.replicate_succ, List.flatten_cons, ih]; rfl
        exact key _
      · subst z
        show (List.replicate 1 ds).flatten = ds
        simp
    rw [e] at q
    exact q H1 _ (Same.refl _) (.t h1 h2)
theorem rep_map (k : Nat) (xs : List Int) : (List.replicate k (xs.map D.i)).flatten = ((List.replicate k xs).flatten).map D.i := by
  induction k with
  | zero => rfl
  | succ k ih => rw [List.replicate_succ, List.flatten_cons, ih, List.replicate_succ, List.flatten_cons, List.map_append]
/-- t[::-1] -/
theorem e_revT {ds : List D} (ha : Ev ta g H (.t ds)) : Ev (tRevT K ta) g H (.t ds.reverse) := fun σ H1 e s Q q =>
  ha σ H1 e s _ fun H2 v e2 hv => by
    obtain ⟨a, vs, rfl, h1, h2⟩ := hv.t_inv
    exact ⟨a, vs, rfl, SqT.of h1, fun p hp => q _ _ (e2.trans (Same.new hp)) (DT.new hp h2.reverse)⟩

/-! ### truth of sequences -/
theorem isEmpty_len {H : Hp} {vs : List V} {ds : List D} (h : DTs H vs ds) : vs.isEmpty = ds.isEmpty := by cases h <;> rfl
theorem t_truT {ds : List D} (ha : Ev ta g H (.t ds)) : EvT (fun σ H Q => ta σ H fun x H' => ∃ k, TruV K x H' k ∧ Q k H') g H (!ds.isEmpty) := fun σ H1 e s Q q =>
  ha σ H1 e s _ fun H2 v e2 hv => by
    obtain ⟨a, vs, rfl, h1, h2⟩ := hv.t_inv
    exact ⟨_, .inr (.inl ⟨vs, SqT.of h1, by rw [isEmpty_len h2]⟩), q H2 e2⟩
theorem t_truL {l : Addr} {ds : List D} (hl : LsD H l ds) (ha : Ev ta g H (.r l)) : EvT (fun σ H Q => ta σ H fun x H' => ∃ k, TruV K x H' k ∧ Q k H') g H (!ds.isEmpty) := fun σ H1 e s Q q =>
  ha σ H1 e s _ fun H2 v e2 hv => by
    cases hv.r_inv
    obtain ⟨vs, h1, h2⟩ := (hl.mono e).mono e2
    exact ⟨_, .inl ⟨vs, SqL.of h1, by rw [isEmpty_len h2]⟩, q H2 e2⟩

/-! ### more built-ins -/
theorem e_abs {i : Int} (ha : Ev ta g H (.i i)) : Ev (tCB (fun xs H Q => ∃ i, xs = [.int i] ∧ Q (.int (if i < 0 then -i else i)) H) (tCons ta tNil)) g H (.i (if i < 0 then -i else i)) := e_cb (a_cons ha a_nil) fun H1 vs _ hs Q q => by
  obtain ⟨v, r, rfl, h1, h2⟩ := hs.cons_inv
  cases h2.nil_inv; cases h1.i_inv
  exact ⟨i, rfl, q H1 _ (Same.refl _) .i⟩
theorem e_int1 {i : Int} (ha : Ev ta g H (.i i)) : Ev (tCB (fun xs H Q => (∃ i, xs = [.int i] ∧ Q (.int i) H) ∨ ∃ k, xs = [.bl k] ∧ Q (.int (if k then 1 else 0)) H) (tCons ta tNil)) g H (.i i) := e_cb (a_cons ha a_nil) fun H1 vs _ hs Q q => by
  obtain ⟨v, r, rfl, h1, h2⟩ := hs.cons_inv
  cases h2.nil_inv; cases h1.i_inv
  exact .inl ⟨i, rfl, q H1 _ (Same.refl _) .i⟩
theorem e_any {bs : List Bool} (ha : EvL ta g H (bs.map D.b)) : Ev (tCB (rAny K) (tCons ta tNil)) g H (.b (bs.any id)) := fun σ H1 e s Q q =>
  ha σ H1 e s _ fun H2 p vs e2 _ h2 hd => by
    rw [hd.bls_inv] at h2
    exact ⟨p, bs, rfl, SqL.of h2, q H2 _ e2 .b⟩
/-- sorted of a new list of ints -/
theorem l_sorted {ns : List Int} (ha : EvL ta g H (ns.map D.i)) : EvM (tCB (rSortedI K) (tCons ta tNil)) g H fun d H2 => Same H H2 ∧ ∃ (p : Addr) (ms : List Int), d = .r p ∧ H p = none ∧ LsD H2 p (ms.map D.i) ∧ ms.Perm ns ∧ ms.Pairwise (· ≤ ·) := fun σ s Q q =>
  ha σ H (Same.refl _) s _ fun H2 p vs e2 hp h2 hd => by
    rw [hd.ints_inv] at h2
    refine ⟨p, ns, rfl, SqL.of h2, fun ms p2 hm hs hp2 => ?_⟩
    have e3 : Same H2 (upd H2 p2 (.lst (ms.map V.int))) := Same.new hp2
    exact q _ _ (.r p2) (tpOf (e2.trans e3)) .r ⟨e2.trans e3, p2, ms, rfl, e2.free hp2, ⟨_, upd_same, DTs.ints ms⟩, hm, hs⟩
/-- isinstance(x, T), a built-in type -/
def tyN : D → String
  | .n => "NoneType"
  | .b _ => "bool"
  | .i _ => "int"
  | .t _ => "tuple"
  | .r _ => "?"
theorem e_isi {T : String} {b : Bool} (hb : kitB (tyN d) T = some b) (hr : ∀ a, d ≠ .r a) (ha : Ev ta g H d) : Ev (tCB (rIsi K) (tCons ta (tCons (tC (.ty T)) tNil))) g H (.b b) := fun σ H1 e s Q q =>
  ha σ H1 e s _ fun H2 v e2 hv => by
    have ty : TyX K H2 v (.type (tyN d)) := by
      cases hv with
      | n => exact .base .non
      | b => exact .base (.bl _)
      | i => exact .base (.int _)
      | r => exact absurd rfl (hr _)
      | t h _ => exact .base (.tup h)
    exact ⟨v, .ty T, _, .type T, b, rfl, .ty T, ty, kit_ty hb, q H2 _ e2 .b⟩
end

/-! ### dict(d) -/
def rDictC : List V → Hp → VK → Prop := fun xs H Q => ∃ a kvs, xs = [.ref a] ∧ H a = some (.dK kvs) ∧ ∀ p, H p = none → Q (.ref p) (upd H p (.dK kvs))
section
variable {X : Cx}
theorem call_dictC : CallR X (.type "dict") rDictC := by
  intro pins s σ H xs us Q I r h
  obtain ⟨a, kvs, rfl, ha, q⟩ := h
  obtain ⟨u, rfl, ru⟩ := vals1 r
  cases ru
  obtain ⟨hz, hS, vs, kv, m⟩ : kvs.length ≤ sizeLine ∧ (a == sysModules) = false ∧ ∃ vs, KV kvs vs ∧ s.heap.DictOf (mixKind X.prog X.w) a vs := I.hok a _ ha
  have hlen : kvs.length = vs.length := Paired.length kv
  refine kt_call_dict hS m (by omega) fun h' hm hs => ?_
  have keep : ∀ b o, s.heap.get? b = some o → h'.get? b = some o := fun b o e => (hs.2 b (Nat.ne_of_lt (Heap.lt_size e))).trans (Heap.get?_push_of_some _ e)
  have big := I.big
  refine ⟨.ref s.heap.objs.size, _, I.laid (t' := s.toks) (o := .dK kvs) keep (Nat.le_refl _) ?_, rfl, q _ (I.hok.fresh (Nat.le_refl _))⟩
  exact ⟨hz, beq_eq_false_iff_ne.mpr (Ne.symm (Nat.ne_of_lt big)), vs, kv, hm⟩
end
section
variable {g : Ga} {H : Hp} {ta : TE}
theorem m_dictC {l : Addr} {m : List (Int × Int)} (hl : DcD H l m) (ha : Ev ta g H (.r l)) : EvM (tCB rDictC (tCons ta tNil)) g H fun d H2 => Same H H2 ∧ ∃ p, d = .r p ∧ H p = none ∧ DcD H2 p m := fun σ s Q q =>
  ha σ H (Same.refl _) s _ fun H2 v e2 hv => by
    cases hv.r_inv
    exact ⟨l, _, rfl, e2 _ _ hl, fun p hp => q _ _ (.r p) (tpOf (e2.trans (Same.new hp))) .r ⟨e2.trans (Same.new hp), p, rfl, e2.free hp, upd_same⟩⟩
theorem m_dnew : EvM tDNewK g H fun d H2 => Same H H2 ∧ ∃ p, d = .r p ∧ H p = none ∧ DcD H2 p [] := fun σ s Q q p hp =>
  q _ _ (.r p) (tpOf (Same.new hp)) .r ⟨Same.new hp, p, rfl, hp, upd_same⟩
end

/-! ### a dict whose keys are nested tuples -/
section
variable (P : Program) (w : World)
def RawT (d : Addr) (xs : List (NestedKey × Addr × Value)) : Heap → Prop := fun h =>
  ∃ o es ep, h.get? d = some o ∧ o.ExactDict ∧ o.data = .dict es ep ∧ es.toList = xs.map (entryOfKey (nestedKind P w)) ∧ (xs.map (·.1)).Nodup
/-- at d stands a dict with the keys ks -/
def Trd (H : Hp) (d : Addr) (ks : List NestedKey) : Prop := ∃ xs : List (NestedKey × Addr × Value), H d = some (.ext (RawT P w d xs)) ∧ (d == sysModules) = false ∧ xs.map (·.1) = ks ∧ ks.Nodup ∧
  ∀ x ∈ xs, ∃ e, DT H (.ref x.2.1) e ∧ x.1 = toK e ∧ pureD e = true ∧ (toK e).depth ≤ 8
end
section
variable {P : Program} {w : World}
theorem Trd.fr {S : List Addr} {H H' : Hp} {d : Addr} {ks : List NestedKey} (h : Trd P w H d ks) (e : Fr S H H') (n : d ∉ S) : Trd P w H' d ks := by
  obtain ⟨xs, h1, h2, h3, h4, h5⟩ := h
  refine ⟨xs, e.kp _ _ h1 n, h2, h3, h4, fun x hx => ?_⟩
  obtain ⟨k, a, b⟩ := h5 x hx
  exact ⟨k, a.mono e.tp, b⟩
theorem Trd.mono {H H' : Hp} {d : Addr} {ks : List NestedKey} (h : Trd P w H d ks) (e : Same H H') : Trd P w H' d ks := h.fr (S := []) (Fr.of e) (by simp)
theorem Trd.ofh {H : Hp} {h : Heap} {d : Addr} {xs : List (NestedKey × Addr × Value)} (ok : HOk P w H h) (h1 : H d = some (.ext (RawT P w d xs))) (h5 : ∀ x ∈ xs, ∃ e, DT H (.ref x.2.1) e ∧ x.1 = toK e ∧ pureD e = true ∧ (toK e).depth ≤ 8) : h.DictOfH (nestedKind P w) d xs := by
  obtain ⟨⟨o, es, ep, q1, q2, q3, q4, q5⟩, _, _⟩ := ok d _ h1
  refine ⟨o, es, ep, q1, q2, q3, q4, fun x hx => ?_, q5⟩
  obtain ⟨e, a, b, c, dd⟩ := h5 x hx
  rw [b]
  exact ⟨DT.nk ok a c rfl, dd⟩
end
section
variable {X : Cx} {pos : Pos}
def tDNewX (P : Program) (w : World) : TE := fun _ H Q => ∀ p, H p = none → (p == sysModules) = false → Q (.ref p) (upd H p (.ext (RawT P w p [])))
theorem pe_dnewX : PE X (.Dict [] [] pos) (tDNewX X.prog X.w) := ⟨fun pins s σ H Q I h => by
  have big := I.big
  refine wpAny_Dict_empty ⟨.ref s.heap.objs.size, _, I.laid (a := s.heap.objs.size) (o := .ext (RawT X.prog X.w s.heap.objs.size [])) (t' := s.toks) (fun _ _ q => Heap.get?_push_of_some _ q) (Nat.le_refl _) ?_, rfl, h _ (I.hok.fresh (Nat.le_refl _)) (beq_eq_false_iff_ne.mpr (Ne.symm (Nat.ne_of_lt big)))⟩
  refine ⟨⟨_, #[], 0, Heap.get?_push_size _ rfl, ⟨rfl, rfl, rfl⟩, rfl, rfl, List.nodup_nil⟩, ⟨_, Heap.get?_push_size _ rfl⟩, ?_⟩
  rintro h1 h2 ⟨o, es, ep, q1, r⟩ k
  exact ⟨o, es, ep, k o q1, r⟩⟩
def rInTr (P : Program) (w : World) : R2 := fun x y H Q => ∃ a d e ks, x = .ref a ∧ y = .ref d ∧ Trd P w H d ks ∧ DT H (.ref a) e ∧ pureD e = true ∧ (toK e).depth ≤ 8 ∧ ∀ b, (b = false → toK e ∉ ks) → Q (.bl b) H
theorem op_inTr (hu : X.A.units + 64 < cLine) : OpR X (compareOp .In) (rInTr X.prog X.w) := by
  intro pins s σ H x y v u Q I rx ry h
  obtain ⟨a, d, e, ks, rfl, rfl, ⟨xs, h1, h2, h3, h4, h5⟩, hd, hp, hdep, q⟩ := h
  cases rx
  cases ry
  refine wpAny_in_heap (knd := nestedKind X.prog X.w) (k := toK e) (show X.A.units + 1 + 8 < cLine by omega) ⟨DT.nk I.hok hd hp rfl, hdep⟩ h2 (Trd.ofh I.hok h1 h5) ?_
  refine ⟨.bl _, H, I.tok _, rfl, q _ fun hb hm => ?_⟩
  rw [← h3] at hm
  obtain ⟨z, hz, ez⟩ := List.mem_map.mp hm
  have : (atKey xs (toK e)).isSome = true := by
    unfold atKey
    rw [Option.isSome_map, List.find?_isSome]
    exact ⟨z, hz, by simp [ez]⟩
  rw [hb] at this
  cases this
def rSetTr (P : Program) (w : World) : TSet := fun o i v H Q => ∃ a d e ks, o = .ref d ∧ i = .ref a ∧ v = .bl true ∧ Trd P w H d ks ∧ DT H (.ref a) e ∧ pureD e = true ∧ (toK e).depth ≤ 8 ∧ toK e ∉ ks ∧ ks.length < sizeLine ∧
  ∀ H', Fr [d] H H' → Trd P w H' d (ks ++ [toK e]) → Q H'
theorem set_tr (hu : X.A.units + 64 < cLine) : PSet X (rSetTr X.prog X.w) := by
  intro pins s σ H o i v ov iv u Q I ro ri rv h
  obtain ⟨a, d, e, ks, rfl, rfl, rfl, ⟨xs, h1, h2, h3, h4, h5⟩, hd, hp, hdep, hn, hz, q⟩ := h
  cases ro
  cases ri
  cases rv
  have hlen : xs.length = ks.length := by rw [← h3, List.length_map]
  refine wpAny_setItem_heap (knd := nestedKind X.prog X.w) (k := toK e) (hsz := by omega) (show X.A.units + 1 + 8 < cLine by omega) ⟨DT.nk I.hok hd hp rfl, hdep⟩ (Trd.ofh I.hok h1 h5) fun h' dd' hs => ?_
  have hnone : atKey xs (toK e) = none := by
    unfold atKey
    rw [Option.map_eq_none_iff, List.find?_eq_none]
    intro z hz' q
    exact hn (by rw [← h3]; exact List.mem_map.mpr ⟨z, hz', by simpa using q⟩)
  have est : storedH xs (toK e) a (.bool true) = xs ++ [(toK e, a, .bool true)] := storedH_new hnone _ _
  obtain ⟨o2, es, ep, hq, q2, q3, q4, q5, q6⟩ := dd'
  rw [est] at q4 q5 q6
  have f1 : Fr [d] H (upd H d (.ext (RawT X.prog X.w d (xs ++ [(toK e, a, Value.bool true)])))) := Fr.upd1 h1 fun ys z => by cases z
  have tp := f1.tp
  refine ⟨_, d_write I (by rw [h1]; exact True.intro) hs ⟨o2, hq⟩ (ob := .ext (RawT X.prog X.w d (xs ++ [(toK e, a, Value.bool true)]))) ?_, q _ f1 ⟨_, upd_same, h2, ?_, ?_, ?_⟩⟩
  · refine ⟨⟨o2, es, ep, hq, q2, q3, q4, q6⟩, ⟨o2, hq⟩, ?_⟩
    rintro g1 g2 ⟨o3, es3, ep3, r1, r⟩ k
    exact ⟨o3, es3, ep3, k o3 r1, r⟩
  · rw [List.map_append, h3]; rfl
  · exact nd_snoc h4 hn
  · intro x hx
    rcases List.mem_append.mp hx with z | z
    · obtain ⟨e', a1, a2⟩ := h5 x z
      exact ⟨e', a1.mono tp, a2⟩
    · rw [List.mem_singleton.mp z]
      exact ⟨e, hd.mono tp, rfl, hp, hdep⟩
end
end Tac

namespace Tac
open PySem PySem.Spec PyProof.Rows L2

/-! ### callees: a def of the module, a method, a class -/
section
variable (P : Program) (w : World) (K : PySem.W.Frag) (mg : Str → Option Value) (base : Heap)
structure Cal (x : Str) (k : Nat) (ps : List Str) (sp : Sp) : Prop where
  ex : ∃ f fd, FnOk P w K mg base CX0 k f fd ps sp ∧ mg x = some (.ref f) ∧ PySem.W.keepIn K (.ref f) = true ∧ Binds K fd ps []
structure MCal (C : Addr) (m : Str) (k : Nat) (ps : List Str) (sp : Sp) : Prop where
  ex : ∃ f fd, FnOk P w K mg base CX0 k f fd ps sp ∧ Meth K C m f ∧ Binds K fd ps []
structure CCal (x : Str) (C : Addr) (k : Nat) (ps : List Str) (sp : Sp) : Prop where
  ex : ∃ f fd, FnOk P w K mg base CX0 k f fd ps sp ∧ Mk K C f ∧ mg x = some (.ref C) ∧ Binds K fd ps []
end
section
variable {X : Cx} {x m : Str} {k j : Nat} {ps : List Str} {sp : Sp} {C : Addr} {p pos apos : Pos} {e o : Expr} {es : List Expr} {t : TA} {ta : TE}
theorem pe_callX (c : Cal X.prog X.w X.K X.mg X.base x k ps sp) (hr : Room k X.A) (hg : Gl X x) (ha : PA X (e :: es) t) (hdb : (x == ("__debug__" : Str)) = false := by decide)
    (he : starEach (e :: es) X.env = (false, eval e X.env) :: starEach es X.env := by rfl) (hpl : (backTo pos (starEach es X.env)).any (·.1) = false := by rfl) : PE X (.Call (.Name x p) (e :: es) [] pos) (tCall sp [] E0 t) := by
  obtain ⟨f, fd, F, hm, hk, hb⟩ := c.ex
  exact pe_call F hr hg hm hk hb .nil pass0 ha hdb he hpl
theorem pe_methX {pl : Sem Bool} (he : PE X o ta) (c : Cls X.K C) (M : MCal X.prog X.w X.K X.mg X.base C m k ps sp) (hr : Room k X.A) (ha : PA X (e :: es) t)
    (hst : starEach (e :: es) X.env = (false, eval e X.env) :: starEach es X.env := by rfl) (hpl : (backTo pos (starEach es X.env)).any (·.1) = false := by rfl)
    (ht : eval (.Call (.Attribute o m apos) (e :: es) [] pos) X.env = (do
      let ov ← eval o X.env
      standAt apos.atName
      let (f, first) ← holding [ov] (getMethod ov m pl)
      callWith pos f first (backTo pos (starEach (e :: es) X.env)) (backToKw pos (keywordEach [] X.env))) := by rfl) :
    PE X (.Call (.Attribute o m apos) (e :: es) [] pos) (tMeth C m sp [] E0 ta t) := by
  obtain ⟨f, fd, F, hm, hb⟩ := M.ex
  exact pe_meth he c hm F hr hb .nil pass0 ha hst hpl ht
theorem pe_methX0 {pl : Sem Bool} (he : PE X o ta) (c : Cls X.K C) (M : MCal X.prog X.w X.K X.mg X.base C m k ps sp) (hr : Room k X.A)
    (ht : eval (.Call (.Attribute o m apos) [] [] pos) X.env = (do
      let ov ← eval o X.env
      standAt apos.atName
      let (f, first) ← holding [ov] (getMethod ov m pl)
      callWith pos f first (backTo pos (starEach [] X.env)) (backToKw pos (keywordEach [] X.env))) := by rfl) :
    PE X (.Call (.Attribute o m apos) [] [] pos) (tMeth C m sp [] E0 ta tNil) := by
  obtain ⟨f, fd, F, hm, hb⟩ := M.ex
  exact pe_meth0 he c hm F hr hb .nil pass0 ht
theorem pe_makeX (c : CCal X.prog X.w X.K X.mg X.base x C k ps sp) (hr : Room (k + 1) X.A) (hg : Gl X x) (ha : PA X (e :: es) t) (hdb : (x == ("__debug__" : Str)) = false := by decide)
    (he : starEach (e :: es) X.env = (false, eval e X.env) :: starEach es X.env := by rfl) (hpl : (backTo pos (starEach es X.env)).any (·.1) = false := by rfl) : PE X (.Call (.Name x p) (e :: es) [] pos) (tMake C sp [] E0 t) := by
  obtain ⟨f, fd, F, M, hm, hb⟩ := c.ex
  exact pe_make M F hr hg hm hb .nil pass0 ha hdb he hpl
/-- a module's int -/
theorem pe_const {i : Int} (h : ∃ t, X.mg x = some (.int i t)) (hg : Gl X x) (hd : (x == ("__debug__" : Str)) = false := by decide) : PE X (.Name x pos) (tC (.int i)) := by
  obtain ⟨t, hm⟩ := h
  exact pe_glob hg hm ⟨t, rfl⟩ hd
end

/-! ### what a call evaluates to -/
section
variable {K : PySem.W.Frag} {g : Ga} {H H' : Hp} {ta tb tc te : TE} {t u : TT} {d e : D} {C : Addr} {m : Str} {sp : Sp} {E : XK} {tl : TA} {ds : List D} {R : D → Hp → Prop}
/-- o.m(..), o an object whose attributes don't hide m -/
theorem e_meth {Nm : List Str} {p : Addr} {fs : List D} (ob : Ob Nm H p C fs) (hm : m ∉ Nm) (ha : Ev ta g H (.r p)) (hl : EvA tl g H ds)
    (hr : ∀ H1 vs, Same H H1 → DTs H1 vs (.r p :: ds) → ∀ Q : VK, (∀ H2 z, Same H1 H2 → DT H2 z d → Q z H2) → sp vs H1 Q E) : Ev (tMeth C m sp [] E ta tl) g H d := fun σ H1 e s Q q =>
  ha σ H1 e s _ fun H2 v e2 hv => by
    cases hv.r_inv
    obtain ⟨dx, vs, h1, h2⟩ := (ob.mono e).mono e2
    refine ⟨p, dx, _, rfl, h1, lookup_zip_none hm, hl σ H2 (e.trans e2) (s.mono (tpOf e2)) _ fun H3 ws e3 hs => ?_⟩
    rw [List.append_nil]
    exact hr H3 _ ((e.trans e2).trans e3) (.cons .r hs) Q fun H4 z e4 hz => q H4 z ((e2.trans e3).trans e4) hz
theorem m_meth {Nm : List Str} {p : Addr} {fs : List D} (ob : Ob Nm H p C fs) (hm : m ∉ Nm) (ha : Ev ta g H (.r p)) (hl : EvA tl g H ds)
    (hr : ∀ H1 vs, Same H H1 → DTs H1 vs (.r p :: ds) → ∀ Q : VK, (∀ H2 z d, Tp H1 H2 → DT H2 z d → R d H2 → Q z H2) → sp vs H1 Q E) : EvM (tMeth C m sp [] E ta tl) g H R := fun σ s Q q =>
  ha σ H (Same.refl _) s _ fun H2 v e2 hv => by
    cases hv.r_inv
    obtain ⟨dx, vs, h1, h2⟩ := ob.mono e2
    refine ⟨p, dx, _, rfl, h1, lookup_zip_none hm, hl σ H2 e2 (s.mono (tpOf e2)) _ fun H3 ws e3 hs => ?_⟩
    rw [List.append_nil]
    exact hr H3 _ (e2.trans e3) (.cons .r hs) Q fun H4 z d e4 hz hR => q H4 z d ((tpOf (e2.trans e3)).trans e4) hz hR
/-- C(..): a new object -/
theorem m_make (hl : EvA tl g H ds) (hr : ∀ H1 p vs, Same H H1 → H p = none → Ob ([] : List Str) H1 p C [] → DTs H1 vs (.r p :: ds) → ∀ Q : VK, (∀ H2, Tp H1 H2 → R (.r p) H2 → Q .non H2) → sp vs H1 Q E) : EvM (tMake C sp [] E tl) g H R := fun σ s Q q =>
  hl σ H (Same.refl _) s _ fun H2 vs e2 hs x dx hx hdx hne => by
    rw [List.append_nil]
    have e3 : Same H2 (upd (upd H2 dx (.own x)) x (.ins C dx [])) := fun b o h => by
      rw [upd_ne (ne_of_none h hx), upd_ne (ne_of_none h hdx)]
      exact h
    exact hr _ x (.ref x :: vs) (e2.trans e3) (e2.free hx) ⟨dx, [], upd_same, .nil⟩ (.cons .r (hs.mono (tpOf e3))) _ fun H4 t4 hR => ⟨rfl, q H4 _ (.r x) ((tpOf (e2.trans e3)).trans t4) .r hR⟩
theorem Ob.re {Nm : List Str} {H : Hp} {p C : Addr} (h : Ob ([] : List Str) H p C []) : Ob Nm H p C [] := by
  obtain ⟨dx, vs, h1, h2⟩ := h
  cases h2
  exact ⟨dx, [], by rw [h1]; simp, .nil⟩
/-- t, u = x, y -/
theorem s_par {i j : Nat} {E : Ends} {x y : D} (ha : EvA tl g H [x, y]) (k : ∀ H1, Same H H1 → N E ((g.set i (some x)).set j (some y)) H1) : W (tPar i j tl) E g H := fun σ s =>
  ha σ H (Same.refl _) s _ fun H1 vs e hs => by
    obtain ⟨v, r, rfl, h1, h2⟩ := hs.cons_inv
    obtain ⟨w, r, rfl, h3, h4⟩ := h2.cons_inv
    cases h4.nil_inv
    exact ⟨v, w, rfl, k H1 e _ (((s.mono (tpOf e)).set h1 i).set h3 j)⟩
theorem q_par {i j : Nat} {E : Ends} {tz : TS} {x y : D} (ha : EvA tl g H [x, y]) (k : ∀ H1, Same H H1 → W tz E ((g.set i (some x)).set j (some y)) H1) : W (tSeq (tPar i j tl) tz) E g H := s_par (E := { E with nx := tz E }) ha k
theorem q_par3 {i j l : Nat} {E : Ends} {tz : TS} {x y z : D} (ha : EvA tl g H [x, y, z]) (k : ∀ H1, Same H H1 → W tz E (((g.set i (some x)).set j (some y)).set l (some z)) H1) : W (tSeq (tPar3 i j l tl) tz) E g H := fun σ s =>
  ha σ H (Same.refl _) s _ fun H1 vs e hs => by
    obtain ⟨v, r, rfl, h1, h2⟩ := hs.cons_inv
    obtain ⟨w, r, rfl, h3, h4⟩ := h2.cons_inv
    obtain ⟨w', r, rfl, h5, h6⟩ := h4.cons_inv
    cases h6.nil_inv
    exact ⟨v, w, w', rfl, k H1 e _ ((((s.mono (tpOf e)).set h1 i).set h3 j).set h5 l)⟩
end

/-! ### the text by places -/
def top (i : Nat) : Stmt := PySem.Challenge.pw_tacet_k49_whole_shapes_go_on.main.body.getD i (.Pass ⟨0, 0, 0, 0⟩)
/-! ### the names of the module -/
structure Tx (K : PySem.W.Frag) (mg : Str → Option Value) (CR CS CF : Addr) : Prop where
  len : mg "len" = none
  range : mg "range" = none
  tuple : mg "tuple" = none
  list : mg "list" = none
  dict : mg "dict" = none
  enumerate : mg "enumerate" = none
  isinstance : mg "isinstance" = none
  sorted : mg "sorted" = none
  any : mg "any" = none
  max : mg "max" = none
  min : mg "min" = none
  abs : mg "abs" = none
  int : mg "int" = none
  bool : mg "bool" = none
  STOP : ∃ t, mg "STOP" = some (.int (-1) t)
  MOST_REPEATS : ∃ t, mg "MOST_REPEATS" = some (.int 2 t)
  MOST_WORD : ∃ t, mg "MOST_WORD" = some (.int 24 t)
  MOST_FIRST : ∃ t, mg "MOST_FIRST" = some (.int 20 t)
  MOST_MOVES : ∃ t, mg "MOST_MOVES" = some (.int 1000 t)
  MOST_CROSSING : ∃ t, mg "MOST_CROSSING" = some (.int 500 t)
  MOST_TURNS : ∃ t, mg "MOST_TURNS" = some (.int 30 t)
  MOST_LENGTH : ∃ t, mg "MOST_LENGTH" = some (.int 40 t)
  MOST_GROWTH : ∃ t, mg "MOST_GROWTH" = some (.int 12 t)
  clR : Cls K CR
  clS : Cls K CS
  clF : Cls K CF
  nR_machine : NoAttr K CR "machine"
  nR_tape : NoAttr K CR "tape"
  nR_place : NoAttr K CR "place"
  nR_state : NoAttr K CR "state"
  nR_steps : NoAttr K CR "steps"
  nS_machine : NoAttr K CS "machine"
  nS_first : NoAttr K CS "first"
  nS_state : NoAttr K CS "state"
  nS_symbol : NoAttr K CS "symbol"
  nS_left : NoAttr K CS "left"
  nS_right : NoAttr K CS "right"
  nF_machine : NoAttr K CF "machine"
  nF_flipped : NoAttr K CF "flipped"
  nF_tried : NoAttr K CF "tried"
def NR : List Str := ["machine", "tape", "place", "state", "steps"]
def NS : List Str := ["machine", "first", "state", "symbol", "left", "right"]
def NF : List Str := ["machine", "flipped", "tried"]
theorem ndR : NR.Nodup := by decide +kernel
theorem ndS : NS.Nodup := by decide +kernel
theorem ndF : NF.Nodup := by decide +kernel
end Tac

namespace Tac
open PySem PySem.Spec PyProof.Rows L2
def ruleD (r : Rule) : D := .t [.i r.1, .i r.2.1, .i r.2.2]
def rowD (row : List Rule) : D := .t (row.map ruleD)
def machD (m : Mach) : D := .t (m.map rowD)
def shD (s : Shp) : D := .t [.b s.flip, .i s.st, .t (s.words.map wD), .t (s.reps.map wD), .i s.first]
def itmD : Itm → D
  | .s x => .t [.i x, .n, .i 0]
  | .b w e => .t [.i 0, wD w, .i e]
abbrev wsD (ws : List (List Int)) : D := .t (ws.map wD)
theorem sz1000 {n : Nat} (h : n ≤ 100000) : n ≤ sizeLine := Nat.le_trans h (by decide)
theorem lt100000 {n : Nat} (h : n ≤ 100000) : n < sizeLine := Nat.lt_of_le_of_lt h (by decide)
end Tac

namespace Tac
open PySem PySem.Spec PyProof.Rows L2
theorem q_start {t : TS} {E : Ends} {Nm : List Str} {vs : List V} {ds : List D} {H : Hp} (hd : DTs H vs ds) (h : W t E (startG Nm ds) H) : t E (L2.start Nm vs) H := h _ (Sl.start hd)

/-! ### words -/
theorem rep_len (k : Nat) (w : List Int) : (rep k w).length = k * w.length := by
  unfold rep
  induction k with
  | zero => simp
  | succ k ih => rw [List.replicate_succ, List.flatten_cons, List.length_append, ih, Nat.succ_mul]; omega
theorem cut_from {α : Type} (ws : List α) (k : Int) (h : 0 ≤ k) : cutD ws (some k) none = ws.drop k.toNat := by
  unfold cutD
  rw [HT.sIx_none]
  have e : HT.sIx ws.length 0 (some k) = min k.toNat ws.length := by
    have := HT.sIx_nat ws.length 0 k.toNat
    rwa [show ((k.toNat : Nat) : Int) = k by omega] at this
  rw [e]
  by_cases hk : k.toNat ≤ ws.length
  · rw [Nat.min_eq_left hk, List.take_of_length_le (by rw [List.length_drop]; exact Nat.le_refl _)]
  · rw [Nat.min_eq_right (by omega), List.drop_of_length_le (Nat.le_refl _), List.drop_of_length_le (by omega)]
    simp
theorem cut_to {α : Type} (ws : List α) (k : Int) (h : 0 ≤ k) : cutD ws none (some k) = ws.take k.toNat := by
  unfold cutD
  rw [HT.sIx_none]
  have e : HT.sIx ws.length ws.length (some k) = min k.toNat ws.length := by
    have := HT.sIx_nat ws.length ws.length k.toNat
    rwa [show ((k.toNat : Nat) : Int) = k by omega] at this
  rw [e, List.drop_zero, Nat.sub_zero]
  by_cases hk : k.toNat ≤ ws.length
  · rw [Nat.min_eq_left hk]
  · rw [Nat.min_eq_right (by omega), List.take_of_length_le (Nat.le_refl _), List.take_of_length_le (by omega)]
theorem cut_mid {α : Type} (ws : List α) (j k : Int) (h : 0 ≤ j) (h2 : 0 ≤ k) : cutD ws (some j) (some k) = (ws.drop j.toNat).take (k.toNat - j.toNat) := by
  unfold cutD
  have e1 : HT.sIx ws.length 0 (some j) = min j.toNat ws.length := by
    have := HT.sIx_nat ws.length 0 j.toNat
    rwa [show ((j.toNat : Nat) : Int) = j by omega] at this
  have e2 : HT.sIx ws.length ws.length (some k) = min k.toNat ws.length := by
    have := HT.sIx_nat ws.length ws.length k.toNat
    rwa [show ((k.toNat : Nat) : Int) = k by omega] at this
  rw [e1, e2]
  apply List.ext_getElem?
  intro i
  rw [List.getElem?_take, List.getElem?_take, List.getElem?_drop, List.getElem?_drop]
  by_cases hj : j.toNat ≤ ws.length
  · rw [Nat.min_eq_left hj]
    by_cases h3 : i < k.toNat - j.toNat
    · rw [if_pos h3]
      by_cases h4 : i < min k.toNat ws.length - j.toNat
      · rw [if_pos h4]
      · rw [if_neg h4, List.getElem?_eq_none (by omega)]
    · rw [if_neg h3, if_neg (by omega)]
  · rw [Nat.min_eq_right (Nat.le_of_lt (Nat.lt_of_not_le hj)), List.getElem?_eq_none (by omega), List.getElem?_eq_none (by omega)]
    simp
/-- the last s of a word, what stands before them -/
theorem cut_last {α : Type} (ws : List α) (s : Nat) (hs : 1 ≤ s) : cutD ws (some (-(s : Int))) none = ws.drop (ws.length - s) := by
  unfold cutD
  rw [HT.sIx_none]
  have e : HT.sIx ws.length 0 (some (-(s : Int))) = ws.length - s := by
    show (if (-(s : Int)) < 0 then ((-(s : Int)) + (ws.length : Int)).toNat else _) = _
    rw [if_pos (by omega)]; omega
  rw [e, List.take_of_length_le (by rw [List.length_drop]; omega)]
theorem cut_init {α : Type} (ws : List α) (s : Nat) (hs : 1 ≤ s) : cutD ws none (some (-(s : Int))) = ws.take (ws.length - s) := by
  unfold cutD
  rw [HT.sIx_none]
  have e : HT.sIx ws.length ws.length (some (-(s : Int))) = ws.length - s := by
    show (if (-(s : Int)) < 0 then ((-(s : Int)) + (ws.length : Int)).toNat else _) = _
    rw [if_pos (by omega)]; omega
  rw [e, List.drop_zero, Nat.sub_zero]
theorem atI_get {α : Type} {xs : List α} {k : Nat} {x : α} (h : xs[k]? = some x) : atI xs (k : Int) = some x := by
  have hk := (List.getElem?_eq_some_iff.mp h).1
  unfold atI ixN
  rw [if_pos (by omega), if_pos (by omega)]
  show xs[((k : Nat) : Int).toNat]? = _
  rw [Int.toNat_natCast]; exact h
theorem atI_int {xs : List Int} {k : Nat} (h : k < xs.length) : atI (xs.map D.i) (k : Int) = some (.i (xs.getD k 0)) :=
  atI_get (by rw [List.getElem?_map, List.getElem?_eq_getElem h, List.getD_eq_getElem?_getD, List.getElem?_eq_getElem h]; rfl)
theorem atI_intZ {xs : List Int} {k : Int} (h0 : 0 ≤ k) (h : k < xs.length) : atI (xs.map D.i) k = some (.i (xs.getD k.toNat 0)) := by
  have := atI_int (xs := xs) (k := k.toNat) (by omega)
  rwa [show ((k.toNat : Nat) : Int) = k by omega] at this
theorem filt_all {α : Type} (xs : List α) : xs.filter (fun _ => true) = xs := by simp
section
variable {K : PySem.W.Frag} {g : Ga} {H H' : Hp} {ta tb tc te : TE} {t u : TT} {d e : D} {tl th : TO}
theorem e_slW {xs : List Int} {lo hi : Option Int} (ha : Ev ta g H (wD xs)) (hl : EvO tl g H lo) (hh : EvO th g H hi) : Ev (tSl (rSlA K) ta tl th) g H (wD (cutD xs lo hi)) :=
  (e_slT ha hl hh).is (by rw [cutD_map])
theorem e_catW {xs ys : List Int} (hz : xs.length + ys.length ≤ sizeLine) (ha : Ev ta g H (wD xs)) (hb : Ev tb g H (wD ys)) : Ev (tOp (rCatA K) ta tb) g H (wD (xs ++ ys)) :=
  (e_cat (by rw [List.length_map, List.length_map]; exact hz) ha hb).is (by rw [← List.map_append])
theorem e_repW {xs : List Int} {k : Int} (hk : -1000 ≤ k ∧ k ≤ 1000 ∧ xs.length ≤ 1000) (ha : Ev ta g H (wD xs)) (hb : Ev tb g H (.i k)) : Ev (tOp (rMulA K) ta tb) g H (wD (rep k.toNat xs)) :=
  (e_rep (by rw [List.length_map]; exact hk) ha hb).is (by rw [rep_map]; rfl)
theorem e_ixW {xs : List Int} {k : Int} (h0 : 0 ≤ k) (h : k < xs.length) (ha : Ev ta g H (wD xs)) (hb : Ev tb g H (.i k)) : Ev (tOp (rIxT K) ta tb) g H (.i (xs.getD k.toNat 0)) := e_ixT (atI_intZ h0 h) ha hb
theorem e_lenW {xs : List Int} (ha : Ev ta g H (wD xs)) : Ev (tCB (rLenS K) (tCons ta tNil)) g H (.i (xs.length : Int)) := (e_lenT ha).is (by rw [List.length_map])
theorem t_truW {xs : List Int} (ha : Ev ta g H (wD xs)) : EvT (fun σ H Q => ta σ H fun x H' => ∃ k, TruV K x H' k ∧ Q k H') g H (!xs.isEmpty) := (t_truT ha).is (by cases xs <;> rfl)
end
theorem nonempty_of {xs : List Int} (h : (!xs.isEmpty) = true) : xs ≠ [] := by
  rintro rfl
  simp at h
theorem empty_of {xs : List Int} (h : (!xs.isEmpty) = false) : xs = [] := by
  cases xs with
  | nil => rfl
  | cons x xs => simp at h
theorem bare_drop {ws : List Int} : ∀ {k : Nat}, k < ws.length → ws.getD k 0 = 0 → bare (ws.drop k) = bare (ws.drop (k + 1)) := fun {k} h e => by
  rw [List.drop_eq_getElem_cons h]
  have : ws[k] = 0 := by
    rw [List.getD_eq_getElem?_getD, List.getElem?_eq_getElem h] at e
    exact e
  show (if ws[k] = 0 then bare (ws.drop (k + 1)) else _) = _
  rw [if_pos this]
theorem bare_stop {ws : List Int} {k : Nat} (h : k < ws.length) (e : ws.getD k 0 ≠ 0) : bare (ws.drop k) = ws.drop k := by
  rw [List.drop_eq_getElem_cons h]
  have : ws[k] ≠ 0 := by
    rw [List.getD_eq_getElem?_getD, List.getElem?_eq_getElem h] at e
    exact e
  show (if ws[k] = 0 then _ else _) = _
  rw [if_neg this]
theorem bare_len : ∀ ws : List Int, (bare ws).length ≤ ws.length
  | [] => Nat.le_refl _
  | x :: xs => by
    have := bare_len xs
    show (if x = 0 then bare xs else x :: xs).length ≤ _
    split
    · simp only [List.length_cons]; omega
    · exact Nat.le_refl _
end Tac
namespace Tac
open PySem L2
def retE : Stmt → Expr
  | .Return (some e) _ => e
  | .Assign _ e _ => e
  | _ => .Constant .none 0 ⟨0, 0, 0, 0⟩
def arg0 : Expr → Expr
  | .Call _ (a :: _) _ _ => a
  | e => e
def lcSc : Expr → Scope
  | .ListComp _ _ sc _ => sc
  | _ => { kind := .function, names := [], isGenerator := false, isCoroutine := false }
def stAt (st : Stmt) (i : Nat) : Stmt := (defBody st).getD i (.Pass ⟨0, 0, 0, 0⟩)
end Tac

namespace Tac
open PySem L2
theorem wipe_idem (σ : St) (vs : List Nat) : wipe (wipe σ vs) vs = wipe σ vs := by
  have idem : ∀ (us : List Nat), (∀ u, u ∈ us → u ∈ vs) → wipe (wipe σ vs) us = wipe σ vs := by
    intro us
    induction us with
    | nil => intro _; rfl
    | cons u us ih =>
      intro hus
      show (wipe (wipe σ vs) us).set u none = wipe σ vs
      rw [ih fun z hz => hus z (List.mem_cons_of_mem _ hz)]
      have key : ∀ (ts : List Nat), u ∈ ts → (wipe σ ts).set u none = wipe σ ts := by
        intro ts
        induction ts with
        | nil => intro hu; simp at hu
        | cons w ts ih2 =>
          intro hu
          show ((wipe σ ts).set w none).set u none = (wipe σ ts).set w none
          by_cases e : u = w
          · rw [e, List.set_set]
          · rw [← List.set_comm _ _ e, ih2 (by rcases List.mem_cons.mp hu with z | z; exact absurd z e; exact z)]
      exact key vs (hus u List.mem_cons_self)
  exact idem vs fun _ h => h
section
variable {K : PySem.W.Frag} {g : Ga} {H H' : Hp} {ta tb tc te : TE} {t u : TT} {tg : TG}
/-- the turns of a comprehension -/
theorem lc_turns {α : Type} {vs : List Nat} {xs : List α} (enc : α → D) (p : α → Bool) (f : α → D) {J : It} {H1 : Hp} {σ : St} {Dl : Addr} {Qd : Hp → Prop} (s : Sl H1 σ g) (hD : H1 Dl = none) (hz : xs.length < sizeLine)
    (hgo : ∀ i H', Same H1 H' → i < xs.length → J.go i H') (hstop : ∀ H', Same H1 H' → J.stop xs.length H')
    (hy : ∀ (i : Nat) x H' H'', Same H1 H' → i < xs.length → J.yld i H' x H'' → H'' = H' ∧ ∃ a, xs[i]? = some a ∧ DT H' x (enc a))
    (h : ∀ (k : Nat) (x : α) (H2 : Hp), Same H1 H2 → xs[k]? = some x → ∃ g2, GsW tg vs (wipeG g vs) H2 (enc x) g2 ∧ EvT t g2 H2 (p x) ∧ (p x = true → Ev tb g2 H2 (f x)))
    (hQ : ∀ H', Same H1 H' → LsD H' Dl ((xs.filter p).map f) → Qd H') :
    ∃ W : Nat → Nat → Hp → Prop, (∃ m, W 0 m (upd H1 Dl (.lst []))) ∧ ∀ i m H, W i m H →
      (J.stop i H ∧ Qd H) ∨ (J.go i H ∧ ∃ Nx : Hp → Prop, (∀ H', Nx H' → ∃ m', m' < m ∧ W (i + 1) m' H') ∧ ∀ x H', J.yld i H x H' → tg x (wipe σ vs) H' fun σ2 H2 => wipe σ2 vs = wipe σ vs ∧ t σ2 H2 fun b H3 =>
        if b = true then tb σ2 H3 fun y H4 => ∃ acc, H4 Dl = some (.lst acc) ∧ acc.length < sizeLine ∧ Nx (upd H4 Dl (.lst (acc ++ [y]))) else Nx H3) := by
  refine ⟨fun i m H' => m = xs.length - i ∧ i ≤ xs.length ∧ Same H1 H' ∧ LsD H' Dl (((xs.take i).filter p).map f), ⟨_, rfl, Nat.zero_le _, Same.new hD, [], upd_same, by simp only [List.take_zero]; exact .nil⟩, ?_⟩
  rintro i m H' ⟨rfl, hi, e, hL⟩
  by_cases hlt : i < xs.length
  · refine .inr ⟨hgo i H' e hlt, fun H'' => (Same H1 H'' ∧ LsD H'' Dl (((xs.take (i + 1)).filter p).map f)), fun H'' ⟨a, b⟩ => ⟨xs.length - (i + 1), by omega, rfl, hlt, a, b⟩, ?_⟩
    rintro x H'' hx
    obtain ⟨rfl, y, hy1, hxd⟩ := hy i x H' H'' e hlt hx
    obtain ⟨g2, hg, ht, hb⟩ := h i y _ e hy1
    refine hg (wipe σ vs) x ((s.mono (tpOf e)).wipe vs) hxd _ fun σ2 s2 hw => ⟨by rw [hw]; exact wipe_idem σ vs, ?_⟩
    refine ht σ2 _ (Same.refl _) s2 _ fun H3 e3 => ?_
    rw [take_succ hy1, List.filter_append, List.map_append]
    cases hp : p y with
    | false =>
      refine iteF ⟨e.trans e3, ?_⟩
      have : ([y].filter p).map f = [] := by simp [hp]
      rw [this, List.append_nil]
      exact hL.mono e3
    | true =>
      refine iteT (hb hp σ2 H3 e3 (s2.mono (tpOf e3)) _ fun H4 z e4 hz' => ?_)
      obtain ⟨acc, ha, hacc⟩ := hL.mono (e3.trans e4)
      have hle : acc.length ≤ i := by
        rw [hacc.length, List.length_map]
        refine Nat.le_trans (List.length_filter_le _ _) ?_
        rw [List.length_take]; omega
      refine ⟨acc, ha, by omega, ?_⟩
      have e14 : Same H1 H4 := (e.trans e3).trans e4
      have f1 : Fr [Dl] H4 (upd H4 Dl (.lst (acc ++ [z]))) := Fr.upd1 ha (fun xs q => by cases q)
      refine ⟨f1.same e14 (fun b hb => by rw [List.mem_singleton.mp hb]; exact hD), acc ++ [z], upd_same, ?_⟩
      have : ([y].filter p).map f = [f y] := by simp [hp]
      rw [this]
      exact (hacc.append (.one hz')).mono f1.tp
  · have e' : i = xs.length := by omega
    subst e'
    refine .inl ⟨hstop H' e, ?_⟩
    rw [List.take_length] at hL
    exact hQ H' e hL
/-- over range(n) -/
theorem l_lcR {tl : TA} {n : Int} {vs : List Nat} (p : Int → Bool) (f : Int → D) (hl : EvA tl g H [.i n]) (hn : 0 ≤ n ∧ n < sizeLine)
    (h : ∀ (k : Nat) (H2 : Hp), Same H H2 → (k : Int) < n → ∃ g2, GsW tg vs (wipeG g vs) H2 (.i k) g2 ∧ EvT t g2 H2 (p k) ∧ (p k = true → Ev tb g2 H2 (f k))) :
    EvL (tLc (iRng1 tl) tg t tb vs) g H ((((List.range n.toNat).map fun (k : Nat) => (k : Int)).filter p).map f) := fun σ H0 e0 s Q q =>
  hl σ H0 e0 s _ fun H1 ws e1 hv => by
    obtain ⟨v, r, rfl, h1, h2⟩ := hv.cons_inv
    cases h2.nil_inv; cases h1.i_inv
    have hsz : (sizeLine : Nat) = 16777216 := sizeLine_eq
    refine ⟨n, rfl, by omega, by omega, fun Dl hD => lc_turns (J := Itr 0 n.toNat) (xs := (List.range n.toNat).map fun (k : Nat) => (k : Int)) D.i p f (s.mono (tpOf e1)) hD (by rw [List.length_map, List.length_range]; omega) (fun i H' _ hi => by rw [List.length_map, List.length_range] at hi; exact hi)
      (fun H' _ => by rw [List.length_map, List.length_range]; exact Nat.le_refl _) (fun i x H' H'' _ hi ⟨ey, ex⟩ => ⟨ey, (i : Int), ?_, ?_⟩) (fun k x H2 e2 hx => ?_) fun H' e2 hL => ?_⟩
    · rw [List.length_map, List.length_range] at hi
      rw [List.getElem?_map, List.getElem?_range hi]; rfl
    · rw [ex, Int.zero_add]; exact .i
    · obtain ⟨j, hj, rfl⟩ : ∃ j, (List.range n.toNat)[k]? = some j ∧ (j : Int) = x := by
        rw [List.getElem?_map] at hx
        cases e : (List.range n.toNat)[k]? with
        | none => rw [e] at hx; cases hx
        | some j => rw [e] at hx; exact ⟨j, rfl, Option.some.inj hx⟩
      have hk := (List.getElem?_eq_some_iff.mp hj).1
      rw [List.length_range] at hk
      have : j = k := by
        have := List.getElem?_range hk
        rw [hj] at this
        exact Option.some.inj this
      subst this
      exact h j H2 ((e0.trans e1).trans e2) (by omega)
    · obtain ⟨acc, ha, hacc⟩ := hL
      exact q H' Dl acc (e1.trans e2) (e1.free hD) ha hacc
/-- over range(lo, hi) -/
theorem l_lcR2 {tl : TA} {lo n : Int} {vs : List Nat} (p : Int → Bool) (f : Int → D) (hl : EvA tl g H [.i lo, .i n]) (hn : -(2 ^ 30) ≤ lo ∧ lo ≤ 2 ^ 30 ∧ -(2 ^ 30) ≤ n ∧ n ≤ 2 ^ 30 ∧ n - lo < sizeLine)
    (h : ∀ (k : Nat) (H2 : Hp), Same H H2 → lo + (k : Int) < n → ∃ g2, GsW tg vs (wipeG g vs) H2 (.i (lo + k)) g2 ∧ EvT t g2 H2 (p (lo + k)) ∧ (p (lo + k) = true → Ev tb g2 H2 (f (lo + k)))) :
    EvL (tLc (iRng2 tl) tg t tb vs) g H ((((List.range (n - lo).toNat).map fun (k : Nat) => lo + (k : Int)).filter p).map f) := fun σ H0 e0 s Q q =>
  hl σ H0 e0 s _ fun H1 ws e1 hv => by
    obtain ⟨v, r, rfl, h1, h2⟩ := hv.cons_inv
    obtain ⟨v2, r, rfl, h3, h4⟩ := h2.cons_inv
    cases h4.nil_inv; cases h1.i_inv; cases h3.i_inv
    have hsz : (sizeLine : Nat) = 16777216 := sizeLine_eq
    refine ⟨lo, n, rfl, ⟨by omega, by omega, by omega, by omega⟩, fun Dl hD => lc_turns (J := Itr lo (n - lo).toNat) (xs := (List.range (n - lo).toNat).map fun (k : Nat) => lo + (k : Int)) D.i p f (s.mono (tpOf e1)) hD (by rw [List.length_map, List.length_range]; omega) (fun i H' _ hi => by rw [List.length_map, List.length_range] at hi; exact hi)
      (fun H' _ => by rw [List.length_map, List.length_range]; exact Nat.le_refl _) (fun i x H' H'' _ hi ⟨ey, ex⟩ => ⟨ey, lo + (i : Int), ?_, ?_⟩) (fun k x H2 e2 hx => ?_) fun H' e2 hL => ?_⟩
    · rw [List.length_map, List.length_range] at hi
      rw [List.getElem?_map, List.getElem?_range hi]; rfl
    · rw [ex]; exact .i
    · obtain ⟨j, hj, rfl⟩ : ∃ j, (List.range (n - lo).toNat)[k]? = some j ∧ lo + (j : Int) = x := by
        rw [List.getElem?_map] at hx
        cases e : (List.range (n - lo).toNat)[k]? with
        | none => rw [e] at hx; cases hx
        | some j => rw [e] at hx; exact ⟨j, rfl, Option.some.inj hx⟩
      have hk := (List.getElem?_eq_some_iff.mp hj).1
      rw [List.length_range] at hk
      have : j = k := by
        have := List.getElem?_range hk
        rw [hj] at this
        exact Option.some.inj this
      subst this
      exact h j H2 ((e0.trans e1).trans e2) (by omega)
    · obtain ⟨acc, ha, hacc⟩ := hL
      exact q H' Dl acc (e1.trans e2) (e1.free hD) ha hacc
/-- over a list that stands -/
theorem l_lcL {α : Type} {vs : List Nat} {l : Addr} {xs : List α} (enc : α → D) (p : α → Bool) (f : α → D) (hls : LsD H l (xs.map enc)) (hl : Ev te g H (.r l)) (hz : xs.length < sizeLine)
    (h : ∀ (k : Nat) (x : α) (H1 : Hp), Same H H1 → xs[k]? = some x → ∃ g2, GsW tg vs (wipeG g vs) H1 (enc x) g2 ∧ EvT t g2 H1 (p x) ∧ (p x = true → Ev tb g2 H1 (f x))) : EvL (tLc (iList K te) tg t tb vs) g H ((xs.filter p).map f) := fun σ H0 e0 s Q q =>
  hl σ H0 e0 s _ fun H1 v e1 hv => by
    obtain ⟨ws, h1, h2⟩ := (hls.mono e0).mono e1
    have hlen : ws.length = xs.length := by rw [h2.length, List.length_map]
    refine ⟨l, hv.r_inv, ⟨ws, SqL.of h1⟩, fun Dl hD => lc_turns (J := Itl K l) enc p f (s.mono (tpOf e1)) hD hz (fun i H' e hi => ⟨ws, ws[i], SqL.of (e _ _ h1), List.getElem?_eq_getElem (by omega)⟩)
      (fun H' e => ⟨ws, SqL.of (e _ _ h1), by omega⟩) (fun i x H' H'' e hi ⟨ey, ex⟩ => ⟨ey, ?_⟩) (fun k x H2 e2 hx => h k x H2 ((e0.trans e1).trans e2) hx) fun H' e2 hL => ?_⟩
    · have hx := ex ws (SqL.of (e _ _ h1))
      obtain ⟨d, hd, hxd⟩ := h2.get' hx
      rw [List.getElem?_map] at hd
      cases hxi : xs[i]? with
      | none => rw [hxi] at hd; cases hd
      | some y =>
        rw [hxi] at hd
        cases hd
        exact ⟨y, rfl, hxd.mono (tpOf e)⟩
    · obtain ⟨acc, ha, hacc⟩ := hL
      exact q H' Dl acc (e1.trans e2) (e1.free hD) ha hacc
/-- over a dict's keys; the dict is locked meanwhile -/
theorem l_lcK {vs : List Nat} {d : Addr} {m : List (Int × Int)} (p : Int → Bool) (f : Int → D) (hd : DcD H d m) (hl : ∀ od, Ev te g (upd H d (.frz od (.dK (kvI m)))) (.r d)) (hz : m.length < sizeLine)
    (h : ∀ od (k : Nat) (x : Int) (H1 : Hp), Same (upd H d (.frz od (.dK (kvI m)))) H1 → (m.map (·.1))[k]? = some x → ∃ g2, GsW tg vs (wipeG g vs) H1 (.i x) g2 ∧ EvT t g2 H1 (p x) ∧ (p x = true → Ev tb g2 H1 (f x))) :
    EvL (tLockE (tLc (iKeys te) tg t tb vs)) g H (((m.map (·.1)).filter p).map f) := fun σ H0 e0 s Q q => by
  have hd0 : H0 d = some (.dK (kvI m)) := e0 _ _ hd
  refine ⟨d, _, hd0, True.intro, fun od => ?_⟩
  have sL : Same (upd H d (.frz od (.dK (kvI m)))) (upd H0 d (.frz od (.dK (kvI m)))) := fun b o hb => by
    by_cases z : b = d
    · subst z; rw [upd_same] at hb ⊢; exact hb
    · rw [upd_ne z] at hb ⊢; exact e0 _ _ hb
  have tpL : Tp H0 (upd H0 d (.frz od (.dK (kvI m)))) := Tp.upd fun xs z => by rw [hd0] at z; cases z
  refine hl od σ _ sL (s.mono tpL) _ fun H1 v e1 hv => ?_
  have hf1 : H1 d = some (.frz od (.dK (kvI m))) := e1 _ _ upd_same
  refine ⟨d, od, hv.r_inv, .inl ⟨kvI m, hf1, fun Dl hD => lc_turns (J := Itk d od (kvI m)) (xs := m.map (·.1)) D.i p f ((s.mono tpL).mono (tpOf e1)) hD (by rw [List.length_map]; exact hz) (fun i H' e hi => ⟨e _ _ hf1, by unfold kvI; rw [List.length_map] at hi ⊢; exact hi⟩)
    (fun H' e => ⟨e _ _ hf1, by unfold kvI; rw [List.length_map, List.length_map]; exact Nat.le_refl _⟩) (fun i x H' H'' e hi ⟨ey, k, w, hk, ex⟩ => ⟨ey, ?_⟩) (fun k x H2 e2 hx => h od k x H2 ((sL.trans e1).trans e2) hx) fun H' e2 hL => ?_⟩⟩
  · unfold kvI at hk
    rw [List.getElem?_map] at hk
    cases hmi : m[i]? with
    | none => rw [hmi] at hk; cases hk
    | some y =>
      rw [hmi] at hk
      cases hk
      exact ⟨y.1, by rw [List.getElem?_map, hmi]; rfl, by rw [ex]; exact .i⟩
  · obtain ⟨acc, ha, hacc⟩ := hL
    have hfd := e2 _ _ hf1
    refine ⟨hfd, ?_⟩
    have nD : Dl ≠ d := fun z => by rw [z, hf1] at hD; cases hD
    have fin : Same H0 (upd H' d (.dK (kvI m))) := fun b o hb => by
      by_cases z : b = d
      · subst z; rw [hd0] at hb; cases hb; exact upd_same
      · rw [upd_ne z]; exact e2 _ _ (e1 _ _ (by rw [upd_ne z]; exact hb))
    have tpB : Tp H' (upd H' d (.dK (kvI m))) := Tp.upd fun xs z => by rw [hfd] at z; cases z
    refine q _ Dl acc fin ?_ (by rw [upd_ne nD]; exact ha) (hacc.mono tpB)
    have := e1.free hD
    rw [upd_ne nD] at this
    exact this
end
end Tac

namespace Tac
structure RnOk (m : Mach) (B : Nat) (r : Rn) : Prop where
  s0 : -1 ≤ r.state
  s1 : r.state < m.length
  v : ∀ e ∈ r.tape, 0 ≤ e.2 ∧ e.2 < B
  n0 : 0 ≤ r.steps
  ln : (r.tape.length : Int) ≤ r.steps
  p1 : r.place ≤ r.steps
  p0 : -r.steps ≤ r.place
  k : ∀ e ∈ r.tape, -r.steps ≤ e.1 ∧ e.1 ≤ r.steps
theorem mget_mem {m : List (Int × Int)} {k v : Int} (h : mget m k = some v) : (k, v) ∈ m := by
  unfold mget at h
  obtain ⟨p, hp, e⟩ := Option.map_eq_some_iff.mp h
  have h1 := List.mem_of_find?_eq_some hp
  have h2 := List.find?_some hp
  simp at h2
  rw [← e, ← h2]
  exact h1
theorem mget_of_key {m : List (Int × Int)} {k : Int} (h : k ∈ m.map (·.1)) : ∃ v, mget m k = some v := by
  obtain ⟨p, hp, e⟩ := List.mem_map.mp h
  unfold mget
  cases q : m.find? fun p => decide (p.1 = k) with
  | none =>
    have := List.find?_eq_none.mp q p hp
    simp [e] at this
  | some p => exact ⟨p.2, rfl⟩
theorem mput_mem {m : List (Int × Int)} {k v : Int} {e : Int × Int} (h : e ∈ mput m k v) : (e.1 = k ∧ e.2 = v) ∨ e ∈ m := by
  unfold mput at h
  split at h
  · obtain ⟨p, hp, q⟩ := List.mem_map.mp h
    split at q
    · rename_i hk
      subst q
      exact .inl ⟨hk, rfl⟩
    · subst q; exact .inr hp
  · rcases List.mem_append.mp h with z | z
    · exact .inr z
    · rw [List.mem_singleton.mp z]; exact .inl ⟨rfl, rfl⟩
theorem mput_length (m : List (Int × Int)) (k v : Int) : (mput m k v).length ≤ m.length + 1 := by
  unfold mput; split <;> simp
theorem ruleOf_at {m : Mach} {B : Nat} (ok : MachOk m B) {s x : Int} (hs : 0 ≤ s ∧ s < m.length) (hx : 0 ≤ x ∧ x < B) :
    ∃ row, m[s.toNat]? = some row ∧ row[x.toNat]? = some (ruleOf m s x) ∧ row.length = B ∧ (0 ≤ (ruleOf m s x).1 ∧ (ruleOf m s x).1 < B ∧ ((ruleOf m s x).2.1 = 1 ∨ (ruleOf m s x).2.1 = -1) ∧ -1 ≤ (ruleOf m s x).2.2 ∧ (ruleOf m s x).2.2 < m.length) := by
  have h1 : s.toNat < m.length := by omega
  have hr : (m[s.toNat]).length = B := ok.row _ (List.getElem_mem h1)
  have h2 : x.toNat < (m[s.toNat]).length := by omega
  have e : ruleOf m s x = m[s.toNat][x.toNat] := by
    unfold ruleOf
    rw [List.getD_eq_getElem?_getD, List.getD_eq_getElem?_getD, List.getElem?_eq_getElem h1]
    show ((m[s.toNat])[x.toNat]?).getD _ = _
    rw [List.getElem?_eq_getElem h2]; rfl
  refine ⟨m[s.toNat], List.getElem?_eq_getElem h1, ?_, hr, ?_⟩
  · rw [e]; exact List.getElem?_eq_getElem h2
  · rw [e]; exact ok.rule _ (List.getElem_mem h1) _ (List.getElem_mem h2)
theorem RnOk.sym {m : Mach} {B : Nat} {r : Rn} (mo : MachOk m B) (ok : RnOk m B r) : 0 ≤ r.sym ∧ r.sym < B := by
  unfold Rn.sym
  have := mo.b2
  cases h : mget r.tape r.place with
  | none => simp; omega
  | some v => simpa using ok.v _ (mget_mem h)
theorem RnOk.zero {m : Mach} {B : Nat} (mo : MachOk m B) : RnOk m B rn0 := by
  have := mo.n1
  exact ⟨(by show (-1 : Int) ≤ 0; omega), (by show (0 : Int) < _; omega), (fun e h => nomatch h), Int.le_refl _, Int.le_refl _, Int.le_refl _, Int.le_refl _, (fun e h => nomatch h)⟩
theorem RnOk.step {m : Mach} {B : Nat} {r : Rn} (mo : MachOk m B) (ok : RnOk m B r) (h0 : 0 ≤ r.state) : RnOk m B (r.step m) := by
  obtain ⟨row, h1, h2, h3, h4, h5, h6, h7, h8⟩ := ruleOf_at mo ⟨h0, ok.s1⟩ (ok.sym mo)
  have a1 := ok.n0; have a2 := ok.ln; have a3 := ok.p1; have a4 := ok.p0
  refine ⟨h7, h8, fun e he => ?_, ?_, ?_, ?_, ?_, fun e he => ?_⟩
  · rcases mput_mem he with ⟨_, q⟩ | q
    · rw [q]; exact ⟨h4, h5⟩
    · exact ok.v e q
  · show 0 ≤ r.steps + 1; omega
  · show ((mput r.tape r.place _).length : Int) ≤ r.steps + 1
    have := mput_length r.tape r.place (ruleOf m r.state r.sym).1
    omega
  · show r.place + _ ≤ r.steps + 1; omega
  · show -(r.steps + 1) ≤ r.place + _; omega
  · show -(r.steps + 1) ≤ e.1 ∧ e.1 ≤ r.steps + 1
    rcases mput_mem he with ⟨q, _⟩ | q
    · omega
    · have := ok.k e q; omega
theorem minL_spec : ∀ (rest : List Int) (a : Int), (minL a rest = a ∨ minL a rest ∈ rest) ∧ minL a rest ≤ a ∧ ∀ x ∈ rest, minL a rest ≤ x
  | [], a => ⟨.inl rfl, Int.le_refl _, fun x h => nomatch h⟩
  | b :: r, a => by
    show (minL (if b < a then b else a) r = a ∨ minL (if b < a then b else a) r ∈ b :: r) ∧ _ ∧ _
    obtain ⟨h1, h2, h3⟩ := minL_spec r (if b < a then b else a)
    refine ⟨?_, ?_, fun x hx => ?_⟩
    · rcases h1 with z | z
      · rw [z]
        split
        · exact .inr List.mem_cons_self
        · exact .inl rfl
      · exact .inr (List.mem_cons_of_mem _ z)
    · show minL (if b < a then b else a) r ≤ a
      split at h2 <;> split <;> omega
    · show minL (if b < a then b else a) r ≤ x
      rcases List.mem_cons.mp hx with z | z
      · subst z
        split at h2 <;> split <;> omega
      · exact h3 x z
theorem maxL_spec : ∀ (rest : List Int) (a : Int), (maxL a rest = a ∨ maxL a rest ∈ rest) ∧ a ≤ maxL a rest ∧ ∀ x ∈ rest, x ≤ maxL a rest
  | [], a => ⟨.inl rfl, Int.le_refl _, fun x h => nomatch h⟩
  | b :: r, a => by
    show (maxL (if a < b then b else a) r = a ∨ maxL (if a < b then b else a) r ∈ b :: r) ∧ _ ∧ _
    obtain ⟨h1, h2, h3⟩ := maxL_spec r (if a < b then b else a)
    refine ⟨?_, ?_, fun x hx => ?_⟩
    · rcases h1 with z | z
      · rw [z]
        split
        · exact .inr List.mem_cons_self
        · exact .inl rfl
      · exact .inr (List.mem_cons_of_mem _ z)
    · show a ≤ maxL (if a < b then b else a) r
      split at h2 <;> split <;> omega
    · show x ≤ maxL (if a < b then b else a) r
      rcases List.mem_cons.mp hx with z | z
      · subst z
        split at h2 <;> split <;> omega
      · exact h3 x z
/-- the ends of a sorted list -/
theorem sorted_ends {ms : List Int} {a : Int} {rest : List Int} (hp : ms.Perm (a :: rest)) (hs : ms.Pairwise (· ≤ ·)) : ms[0]? = some (minL a rest) ∧ ms[ms.length - 1]? = some (maxL a rest) := by
  have hl : 0 < ms.length := by rw [hp.length_eq]; simp
  have mem : ∀ x, x ∈ ms ↔ x = a ∨ x ∈ rest := fun x => by rw [hp.mem_iff]; simp
  obtain ⟨i1, i2, i3⟩ := minL_spec rest a
  obtain ⟨x1, x2, x3⟩ := maxL_spec rest a
  have srt : ∀ (i j : Nat) (hi : i < ms.length) (hj : j < ms.length), i ≤ j → ms[i] ≤ ms[j] := fun i j hi hj hij => by
    by_cases e : i = j
    · subst e; exact Int.le_refl _
    · exact List.pairwise_iff_getElem.mp hs i j hi hj (by omega)
  constructor
  · rw [List.getElem?_eq_getElem hl]
    congr 1
    have m1 : ms[0] ∈ ms := List.getElem_mem hl
    have m2 : minL a rest ∈ ms := (mem _).mpr i1
    obtain ⟨j, hj, ej⟩ := List.getElem_of_mem m2
    have q1 := srt 0 j hl hj (Nat.zero_le _)
    have q2 : minL a rest ≤ ms[0] := by
      rcases (mem _).mp m1 with z | z
      · rw [z]; exact i2
      · exact i3 _ z
    omega
  · have hl1 : ms.length - 1 < ms.length := by omega
    rw [List.getElem?_eq_getElem hl1]
    congr 1
    have m1 : ms[ms.length - 1] ∈ ms := List.getElem_mem hl1
    have m2 : maxL a rest ∈ ms := (mem _).mpr x1
    obtain ⟨j, hj, ej⟩ := List.getElem_of_mem m2
    have q1 := srt j (ms.length - 1) hj hl1 (by omega)
    have q2 : ms[ms.length - 1] ≤ maxL a rest := by
      rcases (mem _).mp m1 with z | z
      · rw [z]; exact x2
      · exact x3 _ z
    omega
theorem nz_bound {m : Mach} {B : Nat} {r : Rn} (ok : RnOk m B r) : ∀ p ∈ r.nz, -r.steps ≤ p ∧ p ≤ r.steps := fun p hp => by
  unfold Rn.nz at hp
  obtain ⟨e, he, q⟩ := List.mem_map.mp (List.mem_filter.mp hp).1
  rw [← q]; exact ok.k e he
theorem cells_bound {m : Mach} {B : Nat} {r : Rn} (ok : RnOk m B r) : -r.steps ≤ r.cells.1 ∧ r.cells.1 ≤ r.steps ∧ (r.cells.2.length : Int) ≤ 2 * r.steps + 1 := by
  have n0 := ok.n0
  unfold Rn.cells
  cases h : r.nz with
  | nil => exact ⟨by show -r.steps ≤ 0; omega, by show 0 ≤ r.steps; omega, by show (0 : Int) ≤ _; omega⟩
  | cons a rest =>
    have nb := nz_bound ok
    rw [h] at nb
    obtain ⟨i1, i2, i3⟩ := minL_spec rest a
    obtain ⟨x1, x2, x3⟩ := maxL_spec rest a
    have b1 : -r.steps ≤ minL a rest ∧ minL a rest ≤ r.steps := by
      rcases i1 with z | z
      · rw [z]; exact nb a List.mem_cons_self
      · exact nb _ (List.mem_cons_of_mem _ z)
    have b2 : -r.steps ≤ maxL a rest ∧ maxL a rest ≤ r.steps := by
      rcases x1 with z | z
      · rw [z]; exact nb a List.mem_cons_self
      · exact nb _ (List.mem_cons_of_mem _ z)
    refine ⟨b1.1, b1.2, ?_⟩
    show (((List.range _).map _).length : Int) ≤ _
    rw [List.length_map, List.length_range]
    omega
theorem run_ok {m : Mach} {B : Nat} (mo : MachOk m B) : ∀ (n : Nat) {r : Rn}, RnOk m B r → RnOk m B (Rn.run m n r) ∧ (Rn.run m n r).steps ≤ r.steps + n
  | 0, r, ok => ⟨ok, by show r.steps ≤ r.steps + 0; omega⟩
  | n + 1, r, ok => by
    show RnOk m B (if r.state = -1 then r else Rn.run m n (r.step m)) ∧ (if r.state = -1 then r else Rn.run m n (r.step m)).steps ≤ _
    by_cases h : r.state = -1
    · rw [if_pos h]; exact ⟨ok, by omega⟩
    · rw [if_neg h]
      have h0 : 0 ≤ r.state := by have := ok.s0; omega
      obtain ⟨q1, q2⟩ := run_ok mo n (ok.step mo h0)
      refine ⟨q1, ?_⟩
      have : (r.step m).steps = r.steps + 1 := rfl
      omega
end Tac

namespace Tac
open PySem PySem.Spec PyProof.Rows L2
section
variable {P : Program} {w : World} {K : PySem.W.Frag} {mg : Str → Option Value} {base : Heap} {CR CS CF : Addr}

/-! ### tail -/
abbrev sTail : Stmt := top 5
theorem sc_tail : FnScope ["row", "start", "first", "cells"] ["row", "start"] (defScope sTail) := ⟨rfl, rfl, rfl, by decide +kernel, rfl, by decide +kernel, by decide +kernel⟩
def spTail : Sp := fun vs H Q _ => ∃ (f s : Int) (ws : List Int), DTs H vs [.t [.i f, wD ws], .i s] ∧ ws.length ≤ 5000 ∧ f - s ≤ 1000 ∧ ∀ H' v, Same H H' → DT H' v (wD (tailW (f, ws) s)) → Q v H'
theorem ok_tail {f : Addr} {fd : FuncData} (F : Fun K "tail" "tail" sTail f fd) (T : Tx K mg CR CS CF) : FnOk P w K mg base CX0 1 f fd ["row", "start"] spTail := by
  refine F.ok sc_tail (fun vs H Q E h => ?_) (fun cdv A outer s H vs Q E hr h => ?_)
  · obtain ⟨_, _, _, hd, _⟩ := h
    exact hd.length
  · obtain ⟨f0, s0, ws, hd, hl, hb, k⟩ := h
    have sc := sc_tail
    refine ⟨_, (pss_cons (ps_asg (pv 0) (pg_tup rfl (pgs_cons (pg_name (i := 2) sc.nd rfl (Or.inl rfl)) (pgs_cons (pg_name (i := 3) sc.nd rfl (Or.inl rfl)) pgs_nil))))
    (pss_cons (ps_if (pt_cmpR op_ge (pv 1) (pv 2) (nomark _))
      (pss_one (ps_ret (pe_slice sl_tupA (pv 3) (po_some (pe_op op_sub (pv 1) (pv 2))) po_none)))
      pss_nil)
    (pss_cons (ps_if (pt_not (pt_truth (pv 3) (by intro _; rfl)))
      (pss_one (ps_ret (pe_tup pa_nil)))
      pss_nil)
    (pss_one (ps_ret (pe_op op_catA (pe_op op_mulA (pe_tup (pa_cons pe_int pa_nil)) (pe_op op_sub (pv 2) (pv 1))) (pv 3))))))), ?_⟩
    refine q_start hd ?_
    refine q_asgG (e_var rfl) (fun H1 => ((gw_tup (gl_cons (gw_name (by decide)) (gl_cons (gw_name (by decide)) gl_nil)) rfl) : GsW _ [2, 3] _ _ _ _).gs) fun H1 e1 => ?_
    refine q_when (t_test (e_ge (e_var rfl) (e_var rfl))) (fun hb H2 e2 => ?_) (fun hb H2 e2 => ?_)
    · refine s_ret (e_slT (e_var rfl) (o_some (e_sub (e_var rfl) (e_var rfl))) o_none) fun H3 v e3 hv => k H3 v ((e1.trans e2).trans e3) ?_
      have hge : f0 ≤ s0 := of_decide_eq_true hb
      rw [cutD_map, cut_from _ _ (by omega)] at hv
      unfold tailW
      rw [if_pos hge]
      exact hv
    · have hge : ¬ f0 ≤ s0 := of_decide_eq_false hb
      refine q_when (t_not (t_truT (e_var rfl))) (fun hb2 H3 e3 => ?_) (fun hb2 H3 e3 => ?_)
      · refine s_ret (e_tup a_nil (by show 0 ≤ sizeLine; decide)) fun H4 v e4 hv => k H4 v (((e1.trans e2).trans e3).trans e4) ?_
        have he : ws = [] := by
          cases ws with
          | nil => rfl
          | cons x xs => simp at hb2
        unfold tailW
        rw [if_neg hge, if_pos he]
        exact hv
      · have he : ws ≠ [] := by
          rintro rfl
          simp at hb2
        have hz : (List.replicate (f0 - s0).toNat [D.i 0]).flatten = (List.replicate (f0 - s0).toNat (0 : Int)).map D.i := by
          have := rep_map (f0 - s0).toNat [0]
          rw [show ([0] : List Int).map D.i = [D.i 0] from rfl] at this
          rw [this]
          congr 1
          generalize (f0 - s0).toNat = n
          induction n with
          | zero => rfl
          | succ n ih => rw [List.replicate_succ, List.flatten_cons, ih, List.replicate_succ]; rfl
        refine s_ret (e_cat (by rw [hz, List.length_map, List.length_replicate, List.length_map]; exact sz1000 (by omega)) (e_rep ⟨by omega, by omega, by simp⟩ (e_tup (a_cons e_int a_nil) (by show 1 ≤ sizeLine; decide)) (e_sub (e_var rfl) (e_var rfl))) (e_var rfl)) fun H4 v e4 hv => k H4 v (((e1.trans e2).trans e3).trans e4) ?_
        rw [hz, ← List.map_append] at hv
        unfold tailW
        rw [if_neg hge, if_neg he]
        exact hv

/-! ### bare -/
abbrev sBare : Stmt := top 16
theorem sc_bare : FnScope ["word", "at"] ["word"] (defScope sBare) := ⟨rfl, rfl, rfl, by decide +kernel, rfl, by decide +kernel, by decide +kernel⟩
def spBare : Sp := fun vs H Q _ => ∃ ws : List Int, DTs H vs [wD ws] ∧ ∀ H' v, Same H H' → DT H' v (wD (bare ws)) → Q v H'
theorem ok_bare {f : Addr} {fd : FuncData} (F : Fun K "bare" "bare" sBare f fd) (T : Tx K mg CR CS CF) : FnOk P w K mg base CX0 1 f fd ["word"] spBare := by
  refine F.ok sc_bare (fun vs H Q E h => ?_) (fun cdv A outer s H vs Q E hr h => ?_)
  · obtain ⟨_, hd, _⟩ := h
    exact hd.length
  · obtain ⟨ws, hd, k⟩ := h
    have sc := sc_bare
    refine ⟨_, (pss_cons (ps_set (i := 1) sc.nd rfl (Or.inl rfl) pe_int)
    (pss_cons (ps_while PassesOwn.never (PW.pt (pw_and (pt_cmpR op_lt (pv 1) (pe_callB call_len_seq rfl T.len PySem.boot_len (pa_cons (pv 0) pa_nil)) (nomark _)) (pw_and1 (pt_cmpR op_eq (pe_ix ix_tup (pv 0) (pv 1) (fun _ _ => rfl)) pe_int (nomark _)))))
      (pss_one (ps_aug (i := 1) sc.nd rfl (Or.inl rfl) pe_int ip_add)))
    (pss_one (ps_ret (pe_slice sl_tupA (pv 0) (po_some (pv 1)) po_none))))), ?_⟩
    refine q_start hd ?_
    refine q_asg e_int fun H1 e1 => ?_
    refine q_while (fun m g' H' => ∃ j : Nat, m = ws.length - j ∧ j ≤ ws.length ∧ bare ws = bare (ws.drop j) ∧ g' = [some (wD ws), some (.i j)] ∧ Same H H') (ws.length - 0) ⟨0, rfl, Nat.zero_le _, rfl, rfl, e1⟩ ?_
    rintro m g' H' ⟨j, rfl, hj, hb, rfl, e2⟩
    refine ⟨_, t_and (t_test (e_lt (e_var rfl) (e_lenW (e_var rfl)))) fun ha => t_test (e_eqI (e_ixW (xs := ws) (by omega) (of_decide_eq_true ha) (e_var rfl) (e_var rfl)) e_int), fun hb1 H2 e3 => ?_, fun hb1 H2 e3 => ?_⟩
    · have q := Bool.and_eq_true_iff.mp hb1
      have q1 : (j : Int) < ws.length := of_decide_eq_true q.1
      have q2 : ws.getD (j : Int).toNat 0 = 0 := of_decide_eq_true q.2
      rw [Int.toNat_natCast] at q2
      refine s_augI rfl e_int fun H3 e4 => n_lp ⟨ws.length - (j + 1), by omega, j + 1, rfl, by omega, ?_, rfl, (e2.trans e3).trans e4⟩
      rw [hb, bare_drop (by omega) q2]
    · refine s_ret (e_slW (e_var rfl) (o_some (e_var rfl)) o_none) fun H3 v e4 hv => k H3 v ((e2.trans e3).trans e4) ?_
      rw [cut_from _ _ (by omega), Int.toNat_natCast] at hv
      rw [hb]
      by_cases hlt : j < ws.length
      · have q2 : ws.getD j 0 ≠ 0 := by
          intro z
          have := Bool.and_eq_false_iff.mp hb1
          rcases this with q | q
          · exact absurd (of_decide_eq_false q) (by omega)
          · have := of_decide_eq_false q
            rw [Int.toNat_natCast] at this
            exact this z
        rw [bare_stop hlt q2]; exact hv
      · have : ws.drop j = [] := List.drop_of_length_le (by omega)
        rw [this] at hv ⊢
        exact hv

/-! ### mirrored, sided -/
abbrev sMirr : Stmt := top 2
theorem sc_mirr : FnScope ["machine", "row", "write", "move", "state"] ["machine"] (defScope sMirr) := ⟨rfl, rfl, rfl, by decide +kernel, rfl, by decide +kernel, by decide +kernel⟩
def scMirr1 : Scope := relS (lcSc (arg0 (retE (stAt sMirr 0)))) (defScope sMirr)
def teMirr (K : PySem.W.Frag) : TE := tCB (rTupOf K) (tCons (tLc (iTup K (tVar 1)) (gTup K 3 (gCons (gName 2) (gCons (gName 3) (gCons (gName 4) gNil)))) tYes (tTup (tCons (tVar 2) (tCons (tUn (rU fun i => .int (-i)) (tVar 3)) (tCons (tVar 4) tNil)))) [2, 3, 4]) tNil)
def spMirr : Sp := fun vs H Q _ => ∃ m : Mach, DTs H vs [machD m] ∧ (m.length ≤ 1000 ∧ ∀ row ∈ m, row.length ≤ 1000) ∧ ∀ H' v, Same H H' → DT H' v (machD (mirr m)) → Q v H'
theorem ok_mirr {f : Addr} {fd : FuncData} (F : Fun K "mirrored" "mirrored" sMirr f fd) (T : Tx K mg CR CS CF) : FnOk P w K mg base CX0 1 f fd ["machine"] spMirr := by
  refine F.ok sc_mirr (fun vs H Q E h => ?_) (fun cdv A outer s H vs Q E hr h => ?_)
  · obtain ⟨_, hd, _⟩ := h
    exact hd.length
  · obtain ⟨m, hd, ⟨hm1, hm2⟩, k⟩ := h
    have sc := sc_mirr
    refine ⟨_, (pss_one (ps_ret (pe_callTy call_tuple_of rfl T.tuple (by decide +kernel) (pa_cons (pe_lc (own := [("row", 1)]) (g := gName 1) (tt := tYes) (te := teMirr K) rfl sc.nd (pi_tup (pv 0)) (blkOk_by (own := [("row", 1)]) (N := ["machine", "row", "write", "move", "state"]) (sc := defScope sMirr) (by decide +kernel)) (fun _ _ _ _ _ => (pg_name (i := 1) sc.nd rfl (Or.inl rfl))) (fun _ _ _ _ _ => pts_nil) (fun _ _ _ _ _ => by exact (pe_callTy call_tuple_of rfl T.tuple (by decide +kernel) (pa_cons (pe_lc (own := [("write", 2), ("move", 3), ("state", 4)]) (tt := tYes) rfl sc.nd (pi_tup (pv 1)) (blkOk_by (own := [("write", 2), ("move", 3), ("state", 4)]) (N := ["machine", "row", "write", "move", "state"]) (sc := scMirr1) (by decide +kernel)) (fun _ _ _ _ _ => (pg_tup rfl (pgs_cons (pg_name (i := 2) sc.nd rfl (Or.inl rfl)) (pgs_cons (pg_name (i := 3) sc.nd rfl (Or.inl rfl)) (pgs_cons (pg_name (i := 4) sc.nd rfl (Or.inl rfl)) pgs_nil))))) (fun _ _ _ _ _ => pts_nil) (fun _ _ _ _ _ => (pe_tup (pa_cons (pv 2) (pa_cons (pe_un un_neg (pv 3)) (pa_cons (pv 4) pa_nil)))))) pa_nil)))) pa_nil)))), ?_⟩
    refine q_start hd ?_
    refine s_ret (d := machD (mirr m)) ((e_tupN (l_lcT (vs := [1]) rowD (fun _ => true) (fun row => rowD (row.map fun r => (r.1, -r.2.1, r.2.2))) (e_var rfl) (lt100000 (by omega)) fun j x H1 e1 hx => ⟨_, gw_name (by decide), t_yes, fun _ => ?_⟩)).is ?_) fun H1 v e1 hv => k H1 v e1 hv
    · refine (e_tupN (l_lcT (vs := [2, 3, 4]) ruleD (fun _ => true) (fun r => ruleD (r.1, -r.2.1, r.2.2)) (e_var rfl) (lt100000 (by have := hm2 x (List.mem_of_getElem? hx); omega)) fun j2 x2 H2 e2 hx2 => ⟨_, gw_tup (gl_cons (gw_name (by decide)) (gl_cons (gw_name (by decide)) (gl_cons (gw_name (by decide)) gl_nil))) rfl, t_yes, fun _ => e_tup (a_cons (e_var rfl) (a_cons (e_neg (e_var rfl)) (a_cons (e_var rfl) a_nil))) (by show 3 ≤ sizeLine; decide)⟩)).is ?_
      rw [filt_all]
      unfold rowD
      rw [List.map_map]; rfl
    · rw [filt_all]
      unfold machD mirr
      rw [List.map_map]; rfl
abbrev sSided : Stmt := top 18
theorem sc_sided : FnScope ["machine", "flipped"] ["machine", "flipped"] (defScope sSided) := ⟨rfl, rfl, rfl, by decide +kernel, rfl, by decide +kernel, by decide +kernel⟩
def spSided : Sp := fun vs H Q _ => ∃ (m : Mach) (b : Bool), DTs H vs [machD m, .b b] ∧ (m.length ≤ 1000 ∧ ∀ row ∈ m, row.length ≤ 1000) ∧ ∀ H' v, Same H H' → DT H' v (machD (sidedM m b)) → Q v H'
theorem ok_sided {f : Addr} {fd : FuncData} (F : Fun K "sided" "sided" sSided f fd) (T : Tx K mg CR CS CF) (c_mirrored : Cal P w K mg base "mirrored" 1 ["machine"] spMirr) : FnOk P w K mg base CX0 2 f fd ["machine", "flipped"] spSided := by
  refine F.ok sc_sided (fun vs H Q E h => ?_) (fun cdv A outer s H vs Q E hr h => ?_)
  · obtain ⟨_, _, hd, _⟩ := h
    exact hd.length
  · obtain ⟨m, b, hd, hm, k⟩ := h
    have sc := sc_sided
    refine ⟨_, (pss_cons (ps_if (pt_val (pv 1))
      (pss_one (ps_ret (pe_callX c_mirrored (hr.mono (by decide)) rfl (pa_cons (pv 0) pa_nil))))
      pss_nil)
    (pss_one (ps_ret (pv 0)))), ?_⟩
    refine q_start hd ?_
    refine q_when (t_B (e_var rfl)) (fun hb H1 e1 => ?_) (fun hb H1 e1 => ?_)
    · refine s_ret (e_call (a_cons (e_var rfl) a_nil) fun H2 vs e2 hd2 Q2 q => ⟨m, hd2, hm, q⟩) fun H2 v e2 hv => k H2 v (e1.trans e2) ?_
      unfold sidedM
      rw [if_pos hb]; exact hv
    · refine s_ret (e_var rfl) fun H2 v e2 hv => k H2 v (e1.trans e2) ?_
      unfold sidedM
      rw [if_neg (by rw [hb]; decide)]; exact hv
end
end Tac

namespace Tac
open PySem PySem.Spec PyProof.Rows L2
section
variable {P : Program} {w : World} {K : PySem.W.Frag} {mg : Str → Option Value} {base : Heap} {CR CS CF : Addr}

/-! ### tape_of -/
abbrev sTape : Stmt := top 15
theorem sc_tape : FnScope ["shape", "number", "words", "repeats", "found", "at", "repeat"] ["shape", "number"] (defScope sTape) := ⟨rfl, rfl, rfl, by decide +kernel, rfl, by decide +kernel, by decide +kernel⟩
structure TapOk (sh : Shp) : Prop where
  wl : sh.words.length = sh.reps.length + 1
  rl : sh.reps.length ≤ 2
  w : ∀ w ∈ sh.words, w.length ≤ 1000
  r : ∀ w ∈ sh.reps, w.length ≤ 1000
theorem ShpOk.tap {sh : Shp} {S B : Nat} (h : ShpOk sh S B) : TapOk sh := ⟨h.wl, h.rl2, fun w hw => by have := (h.w w hw).1; omega, fun w hw => by have := (h.r w hw).2.1; omega⟩
theorem getElem?_map_inv {α β : Type} {f : α → β} {xs : List α} {k : Nat} {y : β} (h : (xs.map f)[k]? = some y) : ∃ x, xs[k]? = some x ∧ f x = y := by
  rw [List.getElem?_map] at h
  cases e : xs[k]? with
  | none => rw [e] at h; cases h
  | some x => rw [e] at h; exact ⟨x, rfl, Option.some.inj h⟩
def spTape : Sp := fun vs H Q _ => ∃ (sh : Shp) (n : Int), DTs H vs [shD sh, .i n] ∧ TapOk sh ∧ (0 ≤ n ∧ n ≤ 1000) ∧ ∀ H' v, Same H H' → DT H' v (wD (tapeOf sh n)) → Q v H'
theorem ok_tape {f : Addr} {fd : FuncData} (F : Fun K "tape_of" "tape_of" sTape f fd) (T : Tx K mg CR CS CF) : FnOk P w K mg base CX0 1 f fd ["shape", "number"] spTape := by
  refine F.ok sc_tape (fun vs H Q E h => ?_) (fun cdv A outer s H vs Q E hr h => ?_)
  · obtain ⟨_, _, hd, _⟩ := h
    exact hd.length
  · obtain ⟨sh, n, hd, ok, ⟨hn0, hn1⟩, k⟩ := h
    have sc := sc_tape
    refine ⟨_, (pss_cons (ps_par (i := 2) (j := 3) (by rfl) sc.nd rfl rfl (by decide) rfl rfl (pa_cons (pe_ix ix_tup (pv 0) pe_int (fun _ _ => rfl)) (pa_cons (pe_ix ix_tup (pv 0) pe_int (fun _ _ => rfl)) pa_nil)) (by rfl))
    (pss_cons (ps_set (i := 4) sc.nd rfl (Or.inl rfl) (pe_ix ix_tup (pv 2) pe_int (fun _ _ => rfl)))
    (pss_cons (ps_for PassesOwn.never rfl (pi_enumT rfl T.enumerate (pa_cons (pv 3) pa_nil)) (pg_tup rfl (pgs_cons (pg_name (i := 5) sc.nd rfl (Or.inl rfl)) (pgs_cons (pg_name (i := 6) sc.nd rfl (Or.inl rfl)) pgs_nil)))
      (pss_one (ps_set (i := 4) sc.nd rfl (Or.inl rfl) (pe_op op_catA (pe_op op_catA (pv 4) (pe_op op_mulA (pv 6) (pv 1))) (pe_ix ix_tup (pv 2) (pe_op op_add (pv 5) pe_int) (fun _ _ => rfl))))))
    (pss_one (ps_ret (pv 4)))))), ?_⟩
    refine q_start hd ?_
    obtain ⟨flip, st, words, reps, first⟩ := sh
    have wl : words.length = reps.length + 1 := ok.wl
    have rl : reps.length ≤ 2 := ok.rl
    obtain ⟨w0, ws, rfl⟩ : ∃ w0 ws, words = w0 :: ws := by
      cases words with
      | nil => simp at wl
      | cons w0 ws => exact ⟨w0, ws, rfl⟩
    have wl : ws.length = reps.length := by simpa using wl
    have hw0 : w0.length ≤ 1000 := ok.w w0 List.mem_cons_self
    refine q_par (a_cons (e_ixT (d := wsD (w0 :: ws)) rfl (e_var rfl) e_int) (a_cons (e_ixT (d := wsD reps) rfl (e_var rfl) e_int) a_nil)) fun H1 e1 => ?_
    refine q_asg (e_ixT (d := wD w0) (ds := (w0 :: ws).map wD) (atI_get (k := 0) rfl) (e_var rfl) e_int) fun H2 e2 => ?_
    refine q_forET (a_cons (e_var rfl) a_nil) fun H3 e3 => ⟨fun k g' H' => ∃ (acc : List Int) (o5 o6 : Option D), g' = [some (shD ⟨flip, st, w0 :: ws, reps, first⟩), some (.i n), some (wsD (w0 :: ws)), some (wsD reps), some (wD acc), o5, o6] ∧ Same H3 H' ∧
      w0 ++ tapeGo n reps ws = acc ++ tapeGo n (reps.drop k) (ws.drop k) ∧ acc.length ≤ 1000 + k * 1001000, ⟨w0, _, _, rfl, Same.refl _, rfl, by omega⟩, fun k g' H' ⟨_, _, _, _, e, _⟩ => tpOf e, ?_, ?_⟩
    · rintro k x g' H' hx ⟨acc, o5, o6, rfl, e4, hacc, hlen⟩ H4 e5
      obtain ⟨r, hr1, rfl⟩ := getElem?_map_inv hx
      have hk : k < reps.length := (List.getElem?_eq_some_iff.mp hr1).1
      have hk2 : k < ws.length := by omega
      have hwk : ws[k]? = some ws[k] := List.getElem?_eq_getElem hk2
      have hr2 : r.length ≤ 1000 := ok.r r (List.mem_of_getElem? hr1)
      have hw2 : ws[k].length ≤ 1000 := ok.w _ (List.mem_cons_of_mem _ (List.getElem_mem hk2))
      have hrep : (rep n.toNat r).length ≤ 1000 * 1000 := by
        rw [rep_len]; exact Nat.mul_le_mul (by omega) hr2
      have hk3 : k ≤ 1 := by omega
      have hacc2 : acc.length ≤ 1002000 := by
        have : k * 1001000 ≤ 1 * 1001000 := Nat.mul_le_mul_right _ hk3
        omega
      refine ⟨_, ((gw_tup (gl_cons (gw_name (by decide)) (gl_cons (gw_name (by decide)) gl_nil)) rfl) : GsW _ [5, 6] _ _ _ _).gs, ?_⟩
      refine s_asg (e_catW (ys := ws[k]) (by rw [List.length_append, sizeLine_eq]; omega) (e_catW (by rw [sizeLine_eq]; omega) (e_var rfl) (e_repW ⟨by omega, by omega, hr2⟩ (e_var rfl) (e_var rfl)))
        (e_ixT (d := wD ws[k]) (ds := (w0 :: ws).map wD) (by rw [show ((k : Int) + 1) = ((k + 1 : Nat) : Int) by omega]; exact atI_get (by simp [hk2])) (e_var rfl) (e_add (e_var rfl) e_int))) fun H5 e6 => n_lp ⟨_, _, _, rfl, (e4.trans e5).trans e6, ?_, ?_⟩
      · rw [hacc, List.drop_eq_getElem_cons hk, List.drop_eq_getElem_cons hk2]
        have : reps[k] = r := by
          have := List.getElem?_eq_getElem hk
          rw [hr1] at this
          exact (Option.some.inj this).symm
        rw [this]
        show acc ++ (rep n.toNat r ++ ws[k] ++ tapeGo n (reps.drop (k + 1)) (ws.drop (k + 1))) = _
        simp only [List.append_assoc]
      · rw [List.length_append, List.length_append]
        have : (k + 1) * 1001000 = k * 1001000 + 1001000 := Nat.succ_mul _ _
        omega
    · rintro g' H' ⟨acc, o5, o6, rfl, e4, hacc, hlen⟩
      refine s_ret (e_var rfl) fun H5 v e5 hv => k H5 v (((e1.trans e2).trans e3).trans (e4.trans e5)) ?_
      have : tapeGo n (reps.drop (List.map wD reps).length) (ws.drop (List.map wD reps).length) = [] := by
        rw [List.length_map, List.drop_of_length_le (Nat.le_refl _)]; rfl
      rw [this, List.append_nil] at hacc
      show DT H5 v (wD (w0 ++ tapeGo n reps ws))
      rw [hacc]; exact hv

/-! ### shared -/
abbrev sShared : Stmt := top 26
theorem sc_shared : FnScope ["one", "two", "many"] ["one", "two"] (defScope sShared) := ⟨rfl, rfl, rfl, by decide +kernel, rfl, by decide +kernel, by decide +kernel⟩
def spShared : Sp := fun vs H Q _ => ∃ (a b : List Int), DTs H vs [wD a, wD b] ∧ ∀ H' (k : Nat), Same H H' → k ≤ a.length → k ≤ b.length → a.take k = b.take k → Q (.int k) H'
theorem take_step {a b : List Int} {k : Nat} (h : a.take k = b.take k) (ha : k < a.length) (hb : k < b.length) (e : a.getD k 0 = b.getD k 0) : a.take (k + 1) = b.take (k + 1) := by
  rw [List.take_succ, List.take_succ, h]
  rw [List.getD_eq_getElem?_getD, List.getD_eq_getElem?_getD] at e
  rw [List.getElem?_eq_getElem ha, List.getElem?_eq_getElem hb] at e ⊢
  simp at e
  rw [e]
theorem ok_shared {f : Addr} {fd : FuncData} (F : Fun K "shared" "shared" sShared f fd) (T : Tx K mg CR CS CF) : FnOk P w K mg base CX0 1 f fd ["one", "two"] spShared := by
  refine F.ok sc_shared (fun vs H Q E h => ?_) (fun cdv A outer s H vs Q E hr h => ?_)
  · obtain ⟨_, _, hd, _⟩ := h
    exact hd.length
  · obtain ⟨a, b, hd, k⟩ := h
    have sc := sc_shared
    refine ⟨_, (pss_cons (ps_set (i := 2) sc.nd rfl (Or.inl rfl) pe_int)
    (pss_cons (ps_while PassesOwn.never (PW.pt (pw_and (pt_cmpR op_lt (pv 2) (pe_callB (call_min2 rfl) rfl T.min (by decide +kernel) (pa_cons (pe_callB call_len_seq rfl T.len PySem.boot_len (pa_cons (pv 0) pa_nil)) (pa_cons (pe_callB call_len_seq rfl T.len PySem.boot_len (pa_cons (pv 1) pa_nil)) pa_nil))) (nomark _)) (pw_and1 (pt_cmpR op_eq (pe_ix ix_tup (pv 0) (pv 2) (fun _ _ => rfl)) (pe_ix ix_tup (pv 1) (pv 2) (fun _ _ => rfl)) (nomark _)))))
      (pss_one (ps_aug (i := 2) sc.nd rfl (Or.inl rfl) pe_int ip_add)))
    (pss_one (ps_ret (pv 2))))), ?_⟩
    refine q_start hd ?_
    refine q_asg e_int fun H1 e1 => ?_
    refine q_while (fun m g' H' => ∃ j : Nat, m = a.length - j ∧ j ≤ a.length ∧ j ≤ b.length ∧ a.take j = b.take j ∧ g' = [some (wD a), some (wD b), some (.i j)] ∧ Same H H') (a.length - 0) ⟨0, rfl, Nat.zero_le _, Nat.zero_le _, rfl, rfl, e1⟩ ?_
    rintro m g' H' ⟨j, rfl, hj, hj2, hb, rfl, e2⟩
    have hlt : ∀ {x y : Nat}, decide ((j : Int) < if (y : Int) < (x : Int) then (y : Int) else (x : Int)) = true → j < x ∧ j < y := fun {x y} h => by
      have := of_decide_eq_true h
      split at this <;> omega
    refine ⟨_, t_and (t_test (e_lt (e_var rfl) (e_min (e_lenW (e_var rfl)) (e_lenW (e_var rfl))))) fun ha => t_test (e_eqI (e_ixW (xs := a) (by omega) (by have := hlt ha; omega) (e_var rfl) (e_var rfl)) (e_ixW (xs := b) (by omega) (by have := hlt ha; omega) (e_var rfl) (e_var rfl))), fun hb1 H2 e3 => ?_, fun hb1 H2 e3 => ?_⟩
    · have q := Bool.and_eq_true_iff.mp hb1
      have q1 := hlt q.1
      have q2 := of_decide_eq_true q.2
      rw [Int.toNat_natCast] at q2
      exact s_augI rfl e_int fun H3 e4 => n_lp ⟨a.length - (j + 1), by omega, j + 1, rfl, by omega, by omega, take_step hb q1.1 q1.2 q2, rfl, (e2.trans e3).trans e4⟩
    · refine s_ret (e_var rfl) fun H3 v e4 hv => ?_
      cases hv.i_inv
      exact k H3 j ((e2.trans e3).trans e4) hj hj2 hb

/-! ### pulled -/
abbrev sPulled : Stmt := top 27
theorem sc_pulled : FnScope ["before", "behind", "repeat", "many", "size"] ["before", "behind", "repeat"] (defScope sPulled) := ⟨rfl, rfl, rfl, by decide +kernel, rfl, by decide +kernel, by decide +kernel⟩
def spPulled : Sp := fun vs H Q _ => ∃ (a b r : List Int), DTs H vs [wD a, wD b, wD r] ∧ 1 ≤ r.length ∧ ∀ H' v (a' b' : List Int) (k1 k2 : Nat), Same H H' → a = a' ++ rep k1 r → b = rep k2 r ++ b' → DT H' v (.t [wD a', wD b', .i ((k1 + k2 : Nat) : Int)]) → Q v H'
theorem rep_succ (k : Nat) (r : List Int) : rep (k + 1) r = r ++ rep k r := by unfold rep; rw [List.replicate_succ, List.flatten_cons]
theorem rep_succ' (k : Nat) (r : List Int) : rep (k + 1) r = rep k r ++ r := by
  induction k with
  | zero => unfold rep; simp
  | succ k ih => rw [rep_succ, ih, ← List.append_assoc, ← rep_succ, ih]
theorem ok_pulled {f : Addr} {fd : FuncData} (F : Fun K "pulled" "pulled" sPulled f fd) (T : Tx K mg CR CS CF) : FnOk P w K mg base CX0 1 f fd ["before", "behind", "repeat"] spPulled := by
  refine F.ok sc_pulled (fun vs H Q E h => ?_) (fun cdv A outer s H vs Q E hr h => ?_)
  · obtain ⟨_, _, _, hd, _⟩ := h
    exact hd.length
  · obtain ⟨a, b, r, hd, hr1, k⟩ := h
    have sc := sc_pulled
    refine ⟨_, (pss_cons (ps_set (i := 3) sc.nd rfl (Or.inl rfl) pe_int)
    (pss_cons (ps_set (i := 4) sc.nd rfl (Or.inl rfl) (pe_callB call_len_seq rfl T.len PySem.boot_len (pa_cons (pv 2) pa_nil)))
    (pss_cons (ps_while PassesOwn.never (pt_cmpR (op_eqD hr.units) (pe_slice sl_tupA (pv 0) (po_some (pe_un un_neg (pv 4))) po_none) (pv 2) (nomark _))
      (pss_cons (ps_set (i := 0) sc.nd rfl (Or.inl rfl) (pe_slice sl_tupA (pv 0) po_none (po_some (pe_un un_neg (pv 4)))))
      (pss_one (ps_aug (i := 3) sc.nd rfl (Or.inl rfl) pe_int ip_add))))
    (pss_cons (ps_while PassesOwn.never (pt_cmpR (op_eqD hr.units) (pe_slice sl_tupA (pv 1) po_none (po_some (pv 4))) (pv 2) (nomark _))
      (pss_cons (ps_set (i := 1) sc.nd rfl (Or.inl rfl) (pe_slice sl_tupA (pv 1) (po_some (pv 4)) po_none))
      (pss_one (ps_aug (i := 3) sc.nd rfl (Or.inl rfl) pe_int ip_add))))
    (pss_one (ps_ret (pe_tup (pa_cons (pv 0) (pa_cons (pv 1) (pa_cons (pv 3) pa_nil)))))))))), ?_⟩
    refine q_start hd ?_
    refine q_asg e_int fun H1 e1 => ?_
    refine q_asg (e_lenW (e_var rfl)) fun H2 e2 => ?_
    refine q_while (fun m g' H' => ∃ (a' : List Int) (k1 : Nat), m = a'.length ∧ a = a' ++ rep k1 r ∧ g' = [some (wD a'), some (wD b), some (wD r), some (.i k1), some (.i r.length)] ∧ Same H H') a.length ⟨a, 0, rfl, by unfold rep; simp, rfl, e1.trans e2⟩ ?_
    rintro m g' H' ⟨a', k1, rfl, ha, rfl, e3⟩
    refine ⟨_, t_test (e_eqD (e_slW (e_var rfl) (o_some (e_neg (e_var rfl))) o_none) (e_var rfl)), fun hb1 H3 e4 => ?_, fun hb1 H3 e4 => ?_⟩
    · have q := of_decide_eq_true hb1
      rw [cut_last _ _ hr1] at q
      have hlen : r.length ≤ a'.length := by
        have := congrArg List.length q
        rw [List.length_drop] at this
        omega
      refine q_asg (e_slW (e_var rfl) o_none (o_some (e_neg (e_var rfl)))) fun H4 e5 => ?_
      refine s_augI rfl e_int fun H5 e6 => n_lp ⟨(a'.take (a'.length - r.length)).length, by rw [List.length_take]; omega, a'.take (a'.length - r.length), k1 + 1, rfl, ?_, ?_, ((e3.trans e4).trans e5).trans e6⟩
      · rw [rep_succ, ← List.append_assoc]
        conv => lhs; rw [ha]
        congr 1
        conv => lhs; rw [← List.take_append_drop (a'.length - r.length) a']
        rw [q]
      · rw [cut_init _ _ hr1]; rfl
    · refine q_while (fun m g' H' => ∃ (b' : List Int) (k2 : Nat), m = b'.length ∧ b = rep k2 r ++ b' ∧ g' = [some (wD a'), some (wD b'), some (wD r), some (.i ((k1 + k2 : Nat) : Int)), some (.i r.length)] ∧ Same H H') b.length ⟨b, 0, rfl, by unfold rep; simp, rfl, e3.trans e4⟩ ?_
      rintro m g' H' ⟨b', k2, rfl, hb, rfl, e5⟩
      refine ⟨_, t_test (e_eqD (e_slW (e_var rfl) o_none (o_some (e_var rfl))) (e_var rfl)), fun hb2 H5 e6 => ?_, fun hb2 H5 e6 => ?_⟩
      · have q := of_decide_eq_true hb2
        rw [cut_to _ _ (by omega), Int.toNat_natCast] at q
        have hlen : r.length ≤ b'.length := by
          have := congrArg List.length q
          rw [List.length_take] at this
          omega
        refine q_asg (e_slW (e_var rfl) (o_some (e_var rfl)) o_none) fun H6 e7 => ?_
        refine s_augI rfl e_int fun H7 e8 => n_lp ⟨(b'.drop r.length).length, by rw [List.length_drop]; omega, b'.drop r.length, k2 + 1, rfl, ?_, ?_, ((e5.trans e6).trans e7).trans e8⟩
        · rw [rep_succ', List.append_assoc]
          conv => lhs; rw [hb]
          congr 1
          conv => lhs; rw [← List.take_append_drop r.length b']
          rw [q]
        · rw [cut_from _ _ (by omega), Int.toNat_natCast]
          show [some (wD a'), some (wD (b'.drop r.length)), some (wD r), some (D.i (((k1 + k2 : Nat) : Int) + 1)), some (D.i r.length)] = _
          rw [show (((k1 + k2 : Nat) : Int) + 1) = ((k1 + (k2 + 1) : Nat) : Int) by omega]
      · exact s_ret (e_tup (a_cons (e_var rfl) (a_cons (e_var rfl) (a_cons (e_var rfl) a_nil))) (by show 3 ≤ sizeLine; decide)) fun H6 v e7 hv => k H6 v a' b' k1 k2 ((e5.trans e6).trans e7) ha hb hv
end
end Tac

namespace Tac
open PySem PySem.Spec PyProof.Rows L2
section
variable {P : Program} {w : World} {K : PySem.W.Frag} {mg : Str → Option Value} {base : Heap} {CR CS CF : Addr}
/-- a Runner at p, its dict at d -/
def RnAt (H : Hp) (p d C : Addr) (m : Mach) (r : Rn) : Prop := Ob NR H p C [machD m, .r d, .i r.place, .i r.state, .i r.steps] ∧ DcD H d r.tape
theorem RnAt.ne {H : Hp} {p d C : Addr} {m : Mach} {r : Rn} (h : RnAt H p d C m r) : p ≠ d := h.1.neD h.2
theorem RnAt.mono {H H' : Hp} {p d C : Addr} {m : Mach} {r : Rn} (h : RnAt H p d C m r) (e : Same H H') : RnAt H' p d C m r := ⟨h.1.mono e, h.2.mono e⟩
theorem RnAt.fr {S : List Addr} {H H' : Hp} {p d C : Addr} {m : Mach} {r : Rn} (h : RnAt H p d C m r) (e : Fr S H H') (n1 : p ∉ S) (n2 : d ∉ S) : RnAt H' p d C m r := ⟨h.1.fr e n1, h.2.fr e n2⟩

/-! ### Runner.__init__ -/
abbrev sRInit : Stmt := inClass (top 4) 0
theorem sc_rinit : FnScope ["self", "machine"] ["self", "machine"] (defScope sRInit) := ⟨rfl, rfl, rfl, by decide +kernel, rfl, by decide +kernel, by decide +kernel⟩
def spRInit (CR : Addr) : Sp := fun vs H Q _ => ∃ (p : Addr) (m : Mach), DTs H vs [.r p, machD m] ∧ Ob ([] : List Str) H p CR [] ∧ ∀ H' d, Fr [p] H H' → H d = none → RnAt H' p d CR m rn0 → Q .non H'
theorem ok_rinit {f : Addr} {fd : FuncData} (F : Fun K "__init__" "Runner.__init__" sRInit f fd) (T : Tx K mg CR CS CF) : FnOk P w K mg base CX0 1 f fd ["self", "machine"] (spRInit CR) := by
  refine F.ok sc_rinit (fun vs H Q E h => ?_) (fun cdv A outer s H vs Q E hr h => ?_)
  · obtain ⟨_, _, hd, _⟩ := h
    exact hd.length
  · obtain ⟨p, m, hd, ob, k⟩ := h
    refine ⟨_, (pss_cons (ps_fld (pv 0) (pv 1) rfl)
    (pss_cons (ps_fld (pv 0) pe_dnewK rfl)
    (pss_cons (ps_fld (pv 0) pe_int rfl)
    (pss_cons (ps_fld (pv 0) pe_int rfl)
    (pss_one (ps_fld (pv 0) pe_int rfl)))))), ?_⟩
    refine q_start hd ?_
    refine q_fldN 0 T.clR T.nR_machine ndR rfl (by decide) (ob.re (Nm := NR)) rfl (e_var rfl) (e_var rfl) fun H1 f1 ob => ?_
    refine q_fldM (p := p) 1 T.clR T.nR_tape ndR rfl (by decide) m_dnew fun H2 dd t2 ⟨e2, d, hdd, hn, hdc⟩ => ?_
    subst hdd
    obtain ⟨o1, ho1⟩ := ob.some
    have npd : p ≠ d := ne_of_none ho1 hn
    refine ⟨_, ob.mono e2, rfl, e_var rfl, fun H3 f3 ob => ?_⟩
    have hdc3 := hdc.fr f3 (by simpa using npd.symm)
    refine q_fldN 2 T.clR T.nR_place ndR rfl (by decide) ob rfl e_int (e_var rfl) fun H4 f4 ob => ?_
    refine q_fldN 3 T.clR T.nR_state ndR rfl (by decide) ob rfl e_int (e_var rfl) fun H5 f5 ob => ?_
    refine s_fldN 4 T.clR T.nR_steps ndR rfl (by decide) ob rfl e_int (e_var rfl) fun H6 f6 ob => ?_
    have f36 : Fr [p] H3 H6 := (f4.trans f5).trans f6
    exact fun _ _ => k H6 d ((f1.trans (Fr.of e2)).trans (f3.trans f36)) (f1.nn d hn) ⟨ob, hdc3.fr f36 (by simpa using npd.symm)⟩

/-! ### Runner.symbol, Runner.step -/
abbrev sRSym : Stmt := inClass (top 4) 1
theorem sc_rsym : FnScope ["self"] ["self"] (defScope sRSym) := ⟨rfl, rfl, rfl, by decide +kernel, rfl, by decide +kernel, by decide +kernel⟩
def spRSym (CR : Addr) : Sp := fun vs H Q _ => ∃ (p d : Addr) (m : Mach) (r : Rn), DTs H vs [.r p] ∧ RnAt H p d CR m r ∧ ∀ H', Same H H' → Q (.int r.sym) H'
theorem ok_rsym {f : Addr} {fd : FuncData} (F : Fun K "symbol" "Runner.symbol" sRSym f fd) (T : Tx K mg CR CS CF) : FnOk P w K mg base CX0 1 f fd ["self"] (spRSym CR) := by
  refine F.ok sc_rsym (fun vs H Q E h => ?_) (fun cdv A outer s H vs Q E hr h => ?_)
  · obtain ⟨_, _, _, _, hd, _⟩ := h
    exact hd.length
  · obtain ⟨p, d, m, r, hd, ⟨ob, hdc⟩, k⟩ := h
    have hu := hu_of hr
    refine ⟨_, (pss_one (ps_ret (pe_dget2 hu (pe_fld (pv 0) rfl) (pe_fld (pv 0) rfl) pe_int ⟨rfl, rfl, rfl, rfl⟩))), ?_⟩
    refine q_start hd ?_
    refine s_ret (e_get2 hdc (e_fld 1 ob T.clR T.nR_tape ndR rfl rfl (e_var rfl)) (e_fld 2 ob T.clR T.nR_place ndR rfl rfl (e_var rfl)) e_int) fun H1 v e1 hv => ?_
    cases hv.i_inv
    exact k H1 e1
abbrev sRStep : Stmt := inClass (top 4) 2
theorem sc_rstep : FnScope ["self", "write", "move", "state"] ["self"] (defScope sRStep) := ⟨rfl, rfl, rfl, by decide +kernel, rfl, by decide +kernel, by decide +kernel⟩
def spRStep (CR : Addr) : Sp := fun vs H Q _ => ∃ (p d : Addr) (m : Mach) (B : Nat) (r : Rn), DTs H vs [.r p] ∧ RnAt H p d CR m r ∧ MachOk m B ∧ RnOk m B r ∧ 0 ≤ r.state ∧ r.steps ≤ 5000 ∧ ∀ H', Fr [p, d] H H' → RnAt H' p d CR m (r.step m) → Q .non H'
theorem sub1 {p d : Addr} : ∀ b, b ∈ [p] → b ∈ [p, d] := fun b h => by simp at h; simp [h]
theorem sub2 {p d : Addr} : ∀ b, b ∈ [d] → b ∈ [p, d] := fun b h => by simp at h; simp [h]
theorem ok_rstep {f : Addr} {fd : FuncData} (F : Fun K "step" "Runner.step" sRStep f fd) (T : Tx K mg CR CS CF) (c_Runner_symbol : MCal P w K mg base CR "symbol" 1 ["self"] (spRSym CR)) : FnOk P w K mg base CX0 2 f fd ["self"] (spRStep CR) := by
  refine F.ok sc_rstep (fun vs H Q E h => ?_) (fun cdv A outer s H vs Q E hr h => ?_)
  · obtain ⟨_, _, _, _, _, hd, _⟩ := h
    exact hd.length
  · obtain ⟨p, d, m, B, r, hd, at_, mo, ok, h0, hst, k⟩ := h
    have hu := hu_of hr
    have sc := sc_rstep
    obtain ⟨ob, hdc⟩ := id at_
    have npd := at_.ne
    refine ⟨_, (pss_cons (ps_asg (pe_ix ix_tup (pe_ix ix_tup (pe_fld (pv 0) rfl) (pe_fld (pv 0) rfl) (fun _ _ => rfl)) (pe_methX0 (pv 0) T.clR c_Runner_symbol (hr.mono (by decide))) (fun _ _ => rfl)) (pg_tup rfl (pgs_cons (pg_name (i := 1) sc.nd rfl (Or.inl rfl)) (pgs_cons (pg_name (i := 2) sc.nd rfl (Or.inl rfl)) (pgs_cons (pg_name (i := 3) sc.nd rfl (Or.inl rfl)) pgs_nil)))))
    (pss_cons (ps_dput hu (pe_fld (pv 0) rfl) (pe_fld (pv 0) rfl) (pv 1) rfl)
    (pss_cons (ps_fldaug (pv 0) (pv 2) in_add)
    (pss_cons (ps_fld (pv 0) (pv 3) rfl)
    (pss_one (ps_fldaug (pv 0) pe_int in_add)))))), ?_⟩
    refine q_start hd ?_
    have hsy := ok.sym mo
    obtain ⟨row, hrow, hrul, _, hrb⟩ := ruleOf_at mo ⟨h0, ok.s1⟩ hsy
    have hrow' : atI (m.map rowD) r.state = some (rowD row) := by
      have := atI_get (k := r.state.toNat) (by rw [List.getElem?_map, hrow]; rfl : (m.map rowD)[r.state.toNat]? = some (rowD row))
      rwa [show ((r.state.toNat : Nat) : Int) = r.state by omega] at this
    have hrul' : atI (row.map ruleD) r.sym = some (ruleD (ruleOf m r.state r.sym)) := by
      have := atI_get (k := r.sym.toNat) (by rw [List.getElem?_map, hrul]; rfl : (row.map ruleD)[r.sym.toNat]? = some (ruleD (ruleOf m r.state r.sym)))
      rwa [show ((r.sym.toNat : Nat) : Int) = r.sym by omega] at this
    refine q_asgG (e_ixT hrul' (e_ixT (d := rowD row) hrow' (e_fld 0 ob T.clR T.nR_machine ndR rfl rfl (e_var rfl)) (e_fld 3 ob T.clR T.nR_state ndR rfl rfl (e_var rfl)))
      (e_meth (d := .i r.sym) ob (by decide +kernel) (e_var rfl) a_nil fun H1 vs e1 hvs Q2 q => ⟨p, d, m, r, hvs, at_.mono e1, fun H2 e2 => q H2 _ e2 .i⟩)) (fun H1 => ((gw_tup (gl_cons (gw_name (by decide)) (gl_cons (gw_name (by decide)) (gl_cons (gw_name (by decide)) gl_nil))) rfl) : GsW _ [1, 2, 3] _ _ _ _).gs) fun H1 e1 => ?_
    have ob1 := ob.mono e1
    have hdc1 := hdc.mono e1
    have hlen := ok.ln
    refine q_dput hdc1 (lt100000 (by omega)) (e_var rfl) (e_fld 1 ob1 T.clR T.nR_tape ndR rfl rfl (e_var rfl)) (e_fld 2 ob1 T.clR T.nR_place ndR rfl rfl (e_var rfl)) fun H2 f2 hd2 => ?_
    have ob2 := ob1.fr f2 (by simpa using npd)
    refine q_fldaug 2 T.clR T.nR_place ndR rfl (by decide) ob2 rfl (e_var rfl) (e_var rfl) fun H3 f3 ob3 => ?_
    refine q_fld 3 T.clR T.nR_state ndR rfl (by decide) ob3 (by simp) (e_var rfl) (e_var rfl) fun H4 f4 ob4 => ?_
    refine s_fldaug 4 T.clR T.nR_steps ndR rfl (by decide) ob4 rfl e_int (e_var rfl) fun H5 f5 ob5 => ?_
    have f35 : Fr [p] H2 H5 := (f3.trans f4).trans f5
    exact fun _ _ => k H5 ((Fr.of e1).trans ((f2.sub sub2).trans (f35.sub sub1))) ⟨ob5, hd2.fr f35 (by simpa using npd.symm)⟩

/-! ### Runner.run -/
abbrev sRRun : Stmt := inClass (top 4) 3
theorem sc_rrun : FnScope ["self", "count", "_"] ["self", "count"] (defScope sRRun) := ⟨rfl, rfl, rfl, by decide +kernel, rfl, by decide +kernel, by decide +kernel⟩
def spRRun (CR : Addr) : Sp := fun vs H Q _ => ∃ (p d : Addr) (m : Mach) (B : Nat) (r : Rn) (n : Nat), DTs H vs [.r p, .i n] ∧ RnAt H p d CR m r ∧ MachOk m B ∧ RnOk m B r ∧ r.steps + n ≤ 5000 ∧
  ∀ H', Fr [p, d] H H' → RnAt H' p d CR m (Rn.run m n r) → Q (.bl (decide ((Rn.run m n r).state = -1))) H'
theorem run_stop {m : Mach} {r : Rn} (h : r.state = -1) : ∀ n, Rn.run m n r = r
  | 0 => rfl
  | n + 1 => by show (if r.state = -1 then r else _) = r; rw [if_pos h]
theorem ok_rrun {f : Addr} {fd : FuncData} (F : Fun K "run" "Runner.run" sRRun f fd) (T : Tx K mg CR CS CF) (c_Runner_step : MCal P w K mg base CR "step" 2 ["self"] (spRStep CR)) : FnOk P w K mg base CX0 3 f fd ["self", "count"] (spRRun CR) := by
  refine F.ok sc_rrun (fun vs H Q E h => ?_) (fun cdv A outer s H vs Q E hr h => ?_)
  · obtain ⟨_, _, _, _, _, _, hd, _⟩ := h
    exact hd.length
  · obtain ⟨p, d, m, B, r, n, hd, at_, mo, ok, hst, k⟩ := h
    have sc := sc_rrun
    have n0 := ok.n0
    refine ⟨_, (pss_cons (ps_for PassesOwn.never rfl (pi_range1 rfl T.range (pa_cons (pv 1) pa_nil)) (pg_name (i := 2) sc.nd rfl (Or.inl rfl))
      (pss_cons (ps_if (pt_cmpR op_eq (pe_fld (pv 0) rfl) (pe_const T.STOP rfl) (nomark _))
        (pss_one ps_break)
        pss_nil)
      (pss_one (ps_expr (pe_methX0 (pv 0) T.clR c_Runner_step (hr.mono (by decide)))))))
    (pss_one (ps_ret (pe_cmpR op_eq (pe_fld (pv 0) rfl) (pe_const T.STOP rfl) (nomark _))))), ?_⟩
    refine q_start hd ?_
    have fin : ∀ (H' : Hp) (o : Option D), Fr [p, d] H H' → RnAt H' p d CR m (Rn.run m n r) →
        W (tRet (tOp rEq (tFld K (tVar 0) "state") (tC (.int (-1))))) { nx := fun x H' => Q V.non H', rt := Q } [some (.r p), some (.i n), o] H' := fun H' o f1 a1 => by
      refine s_ret (e_eqI (e_fld 3 a1.1 T.clR T.nR_state ndR rfl rfl (e_var rfl)) e_int) fun H2 v e2 hv => ?_
      cases hv.b_inv
      exact k H2 (f1.trans (Fr.of e2)) (a1.mono e2)
    refine q_forR (a_cons (e_var rfl) a_nil) ⟨by omega, by omega⟩ fun H1 e1 => ⟨fun j g' H' => ∃ (o : Option D) (r' : Rn), g' = [some (.r p), some (.i n), o] ∧ Fr [p, d] H H' ∧ RnAt H' p d CR m r' ∧ RnOk m B r' ∧ j ≤ n ∧ r'.steps ≤ r.steps + j ∧ Rn.run m n r = Rn.run m (n - j) r', ⟨_, r, rfl, Fr.of e1, at_.mono e1, ok, Nat.zero_le _, by omega, rfl⟩, ?_, ?_⟩
    · rintro j g' H' hj ⟨o, r', rfl, f1, a1, ok1, hj', hs1, hrun⟩
      refine ⟨_, g_name, ?_⟩
      refine q_when (t_test (e_eqI (e_fld 3 a1.1 T.clR T.nR_state ndR rfl rfl (e_var rfl)) e_int)) (fun hb H2 e2 => ?_) (fun hb H2 e2 => ?_)
      · refine s_break fun σ s => fin H2 _ (f1.trans (Fr.of e2)) ?_ σ s
        rw [hrun, run_stop (of_decide_eq_true hb)]
        exact a1.mono e2
      · have hne : r'.state ≠ -1 := of_decide_eq_false hb
        have h0 : 0 ≤ r'.state := by have := ok1.s0; omega
        have a2 := a1.mono e2
        refine s_dropM (m_meth (R := fun d' H' => Fr [p, d] H2 H' ∧ RnAt H' p d CR m (r'.step m)) a2.1 (by decide +kernel) (e_var rfl) a_nil fun H3 vs e3 hvs Q2 q => ⟨p, d, m, B, r', hvs, a2.mono e3, mo, ok1, h0, by omega, fun H4 f4 a4 => q H4 _ .n f4.tp .n ⟨(Fr.of e3).trans f4, a4⟩⟩) fun H3 d' t3 ⟨f3, a3⟩ => n_lp ⟨_, r'.step m, rfl, (f1.trans (Fr.of e2)).trans f3, a3, ok1.step mo h0, by omega, ?_, ?_⟩
        · have : (r'.step m).steps = r'.steps + 1 := rfl
          omega
        · rw [hrun]
          have e : n - j = (n - (j + 1)) + 1 := by omega
          rw [e]
          show (if r'.state = -1 then r' else _) = _
          rw [if_neg hne]
    · rintro g' H' ⟨o, r', rfl, f1, a1, ok1, hj', hs1, hrun⟩
      refine fin H' _ f1 ?_
      rw [hrun, show n - (n : Int).toNat = 0 by omega]
      exact a1
end
end Tac

namespace Tac
open PySem PySem.Spec PyProof.Rows L2
section
variable {P : Program} {w : World} {K : PySem.W.Frag} {mg : Str → Option Value} {base : Heap} {CR CS CF : Addr}
theorem atI_lastI {α : Type} {xs : List α} {x : α} (h : xs[xs.length - 1]? = some x) : atI xs (-1) = some x := by
  have hk := (List.getElem?_eq_some_iff.mp h).1
  unfold atI ixN
  rw [if_neg (by omega), if_pos (by omega)]
  show xs[((-1 : Int) + (xs.length : Int)).toNat]? = _
  rw [show ((-1 : Int) + (xs.length : Int)).toNat = xs.length - 1 by omega]
  exact h
theorem Ob.lock {Nm : List Str} {H : Hp} {p C d : Addr} {ds : List D} {m : List (Int × Int)} {o : HO} (h : Ob Nm H p C ds) (hd : DcD H d m) : Ob Nm (upd H d o) p C ds :=
  h.fr (Fr.upd1 hd fun xs q => by cases q) (by simpa using h.neD hd)

/-! ### Runner.cells -/
abbrev sRCells : Stmt := inClass (top 4) 4
theorem sc_rcells : FnScope ["self", "places", "place"] ["self"] (defScope sRCells) := ⟨rfl, rfl, rfl, by decide +kernel, rfl, by decide +kernel, by decide +kernel⟩
def spRCells (CR : Addr) : Sp := fun vs H Q _ => ∃ (p d : Addr) (m : Mach) (B : Nat) (r : Rn), DTs H vs [.r p] ∧ RnAt H p d CR m r ∧ RnOk m B r ∧ r.steps ≤ 5000 ∧ ∀ H' v, Same H H' → DT H' v (.t [.i r.cells.1, wD r.cells.2]) → Q v H'
theorem ok_rcells {f : Addr} {fd : FuncData} (F : Fun K "cells" "Runner.cells" sRCells f fd) (T : Tx K mg CR CS CF) : FnOk P w K mg base CX0 1 f fd ["self"] (spRCells CR) := by
  refine F.ok sc_rcells (fun vs H Q E h => ?_) (fun cdv A outer s H vs Q E hr h => ?_)
  · obtain ⟨_, _, _, _, _, hd, _⟩ := h
    exact hd.length
  · obtain ⟨p, d, m, B, r, hd, at_, ok, hst, k⟩ := h
    have hu := hu_of hr
    have sc := sc_rcells
    obtain ⟨ob, hdc⟩ := id at_
    have npd := at_.ne
    refine ⟨_, (pss_cons (ps_set (i := 1) sc.nd rfl (Or.inl rfl) (pe_callB cr_sortedI rfl T.sorted (by decide +kernel) (pa_cons (pe_lock (pe_lc (own := [("place", 2)]) (g := gName 2) (tt := tTest (tOp rNe (tDGet (tFld K (tVar 0) "tape") (tVar 2)) (tC (.int 0)))) rfl sc.nd (pi_keys (pe_fld (pv 0) rfl)) (blkOk_by (own := [("place", 2)]) (N := ["self", "places", "place"]) (sc := defScope sRCells) (by decide +kernel)) (fun _ _ _ _ _ => (pg_name (i := 2) sc.nd rfl (Or.inl rfl))) (fun _ _ _ _ _ => pts_one (pt_cmpR op_ne (pe_dget hu (pe_fld (pv 0) rfl) (pv 2) (fun _ _ => rfl)) pe_int (nomark _))) (fun _ _ _ _ _ => (pv 2)))) pa_nil)))
    (pss_cons (ps_if (pt_not (pt_truth (pv 1) (by intro _; rfl)))
      (pss_one (ps_ret (pe_tup (pa_cons pe_int (pa_cons (pe_tup pa_nil) pa_nil)))))
      pss_nil)
    (pss_one (ps_ret (pe_tup (pa_cons (pe_ix ix_list (pv 1) pe_int (fun _ _ => rfl)) (pa_cons (pe_callTy call_tuple_of rfl T.tuple (by decide +kernel) (pa_cons (pe_lc (own := [("place", 2)]) (g := gName 2) (tt := tYes) (te := tDGet2 (tFld K (tVar 0) "tape") (tVar 2) (tC (.int 0))) rfl sc.nd (pi_range2 rfl T.range (pa_cons (pe_ix ix_list (pv 1) pe_int (fun _ _ => rfl)) (pa_cons (pe_op op_add (pe_ix ix_list (pv 1) (pe_un un_neg pe_int) (fun _ _ => rfl)) pe_int) pa_nil))) (blkOk_by (own := [("place", 2)]) (N := ["self", "places", "place"]) (sc := defScope sRCells) (by decide +kernel)) (fun _ _ _ _ _ => (pg_name (i := 2) sc.nd rfl (Or.inl rfl))) (fun _ _ _ _ _ => pts_nil) (fun _ _ _ _ _ => (pe_dget2 hu (pe_fld (pv 0) rfl) (pv 2) pe_int ⟨rfl, rfl, rfl, rfl⟩))) pa_nil)) pa_nil))))))), ?_⟩
    refine q_start hd ?_
    have hlen : r.tape.length < sizeLine := lt100000 (by have := ok.ln; omega)
    refine q_asgM (l_sorted (ns := r.nz) (l_lcK (vs := [2]) (fun x => decide ((mget r.tape x).getD 0 ≠ 0)) D.i hdc (fun od => e_fld 1 (ob.lock hdc) T.clR T.nR_tape ndR rfl rfl (e_var rfl)) hlen fun od j x H1 e1 hx => ⟨_, gw_name (by decide), ?_, fun _ => e_var rfl⟩)) fun H1 dd t1 ⟨e1, l, ms, hdd, hn, hl, hperm, hsort⟩ => ?_
    · obtain ⟨v, hv⟩ := mget_of_key (List.mem_of_getElem? hx)
      refine (t_test (e_neI (e_dget (x := v) (Or.inr ⟨od, e1 _ _ upd_same⟩) hv (e_fld 1 ((ob.lock hdc).mono e1) T.clR T.nR_tape ndR rfl rfl (e_var rfl)) (e_var rfl)) e_int)).is ?_
      rw [hv]
      by_cases h : v = 0 <;> simp [h]
    subst hdd
    have ob1 := ob.mono e1
    refine q_when (t_not (t_truL hl (e_var rfl))) (fun hb H2 e2 => ?_) (fun hb H2 e2 => ?_)
    · refine s_ret (e_tup (a_cons e_int (a_cons (e_tup a_nil (by show 0 ≤ sizeLine; decide)) a_nil)) (by show 2 ≤ sizeLine; decide)) fun H3 v e3 hv => k H3 v ((e1.trans e2).trans e3) ?_
      have hz : r.nz = [] := by
        cases ms with
        | nil => exact List.Perm.eq_nil hperm.symm
        | cons a b => simp at hb
      unfold Rn.cells
      rw [hz]
      exact hv
    · cases hnz : r.nz with
      | nil =>
        rw [hnz] at hperm
        rw [List.Perm.eq_nil hperm] at hb
        simp at hb
      | cons a rest =>
        rw [hnz] at hperm
        obtain ⟨m1, m2⟩ := sorted_ends hperm hsort
        have hl2 := hl.mono e2
        have ob2 := ob1.mono e2
        have hdc2 := (hdc.mono e1).mono e2
        have c1 : atI (ms.map D.i) ((0 : Nat) : Int) = some (.i (minL a rest)) := atI_get (by rw [List.getElem?_map, m1]; rfl)
        have c2 : atI (ms.map D.i) (-1) = some (.i (maxL a rest)) := atI_lastI (by rw [List.length_map, List.getElem?_map, m2]; rfl)
        have nb := nz_bound ok
        rw [hnz] at nb
        obtain ⟨i1, i2, i3⟩ := minL_spec rest a
        obtain ⟨x1, x2, x3⟩ := maxL_spec rest a
        have b1 : -r.steps ≤ minL a rest ∧ minL a rest ≤ r.steps := by
          rcases i1 with z | z
          · rw [z]; exact nb a List.mem_cons_self
          · exact nb _ (List.mem_cons_of_mem _ z)
        have b2 : -r.steps ≤ maxL a rest ∧ maxL a rest ≤ r.steps := by
          rcases x1 with z | z
          · rw [z]; exact nb a List.mem_cons_self
          · exact nb _ (List.mem_cons_of_mem _ z)
        have hsz : (sizeLine : Nat) = 16777216 := sizeLine_eq
        refine s_ret (d := .t [.i r.cells.1, wD r.cells.2]) (e_tup (a_cons ((e_ixL hl2 c1 (e_var rfl) e_int).is ?_) (a_cons ((e_tupN (l_lcR2 (vs := [2]) (lo := minL a rest) (n := maxL a rest + 1) (fun _ => true) (fun x => D.i ((mget r.tape x).getD 0)) (a_cons (e_ixL hl2 c1 (e_var rfl) e_int) (a_cons (e_add (e_ixL hl2 c2 (e_var rfl) (e_neg e_int)) e_int) a_nil)) ⟨by omega, by omega, by omega, by omega, by omega⟩
          fun j H3 e3 hj => ⟨_, gw_name (by decide), t_yes, fun _ => e_get2 (hdc2.mono e3) (e_fld 1 (ob2.mono e3) T.clR T.nR_tape ndR rfl rfl (e_var rfl)) (e_var rfl) e_int⟩)).is ?_) a_nil)) (by show 2 ≤ sizeLine; decide)) fun H3 v e3 hv => k H3 v ((e1.trans e2).trans e3) hv
        · unfold Rn.cells; rw [hnz]
        · rw [filt_all]
          unfold Rn.cells
          rw [hnz]
          show D.t _ = D.t _
          rw [List.map_map, List.map_map]
          rfl

/-! ### Runner.tail -/
abbrev sRTail : Stmt := inClass (top 4) 5
theorem sc_rtail : FnScope ["self", "start"] ["self", "start"] (defScope sRTail) := ⟨rfl, rfl, rfl, by decide +kernel, rfl, by decide +kernel, by decide +kernel⟩
def spRTail (CR : Addr) : Sp := fun vs H Q _ => ∃ (p d : Addr) (m : Mach) (B : Nat) (r : Rn) (s : Int), DTs H vs [.r p, .i s] ∧ RnAt H p d CR m r ∧ RnOk m B r ∧ r.steps ≤ 450 ∧ -450 ≤ s ∧ ∀ H' v, Same H H' → DT H' v (wD (tailW r.cells s)) → Q v H'
theorem ok_rtail {f : Addr} {fd : FuncData} (F : Fun K "tail" "Runner.tail" sRTail f fd) (T : Tx K mg CR CS CF) (c_Runner_cells : MCal P w K mg base CR "cells" 1 ["self"] (spRCells CR)) (c_tail_runner : Cal P w K mg base "tail_runner" 1 ["row", "start"] spTail) : FnOk P w K mg base CX0 2 f fd ["self", "start"] (spRTail CR) := by
  refine F.ok sc_rtail (fun vs H Q E h => ?_) (fun cdv A outer s H vs Q E hr h => ?_)
  · obtain ⟨_, _, _, _, _, _, hd, _⟩ := h
    exact hd.length
  · obtain ⟨p, d, m, B, r, s0, hd, at_, ok, hst, hs0, k⟩ := h
    obtain ⟨ob, hdc⟩ := id at_
    have cb := cells_bound ok
    refine ⟨_, (pss_one (ps_ret (pe_callX c_tail_runner (hr.mono (by decide)) rfl (pa_cons (pe_methX0 (pv 0) T.clR c_Runner_cells (hr.mono (by decide))) (pa_cons (pv 1) pa_nil))))), ?_⟩
    refine q_start hd ?_
    refine s_ret (e_call (d := wD (tailW r.cells s0)) (a_cons (e_meth (d := .t [.i r.cells.1, wD r.cells.2]) ob (by decide +kernel) (e_var rfl) a_nil fun H1 vs e1 hvs Q2 q => ⟨p, d, m, B, r, hvs, at_.mono e1, ok, by omega, fun H2 v e2 hv => q H2 v e2 hv⟩) (a_cons (e_var rfl) a_nil)) fun H1 vs e1 hvs Q2 q => ⟨r.cells.1, s0, r.cells.2, hvs, by omega, by omega, q⟩) fun H2 v e2 hv => k H2 v e2 hv
end
end Tac

namespace Tac
open PySem PySem.Spec PyProof.Rows L2
section
variable {P : Program} {w : World} {K : PySem.W.Frag} {mg : Str → Option Value} {base : Heap} {CR CS CF : Addr}
theorem all_take_succ {α : Type} {p : α → Bool} {xs : List α} {k : Nat} {x : α} (h : xs[k]? = some x) (h1 : (xs.take k).all p = true) (h2 : p x = true) : (xs.take (k + 1)).all p = true := by
  rw [take_succ h, List.all_append, h1]
  simp [h2]
theorem all_false {α : Type} {p : α → Bool} {xs : List α} {k : Nat} {x : α} (h : xs[k]? = some x) (h2 : p x = false) : xs.all p = false := by
  rw [List.all_eq_false]
  exact ⟨x, List.mem_of_getElem? h, by rw [h2]; decide⟩
theorem isi_tt : kitB "tuple" "tuple" = some true := by decide +kernel
theorem isi_ii : kitB "int" "int" = some true := by decide +kernel
theorem isi_ib : kitB "int" "bool" = some false := by decide +kernel
theorem isi_bb : kitB "bool" "bool" = some true := by decide +kernel
theorem nt1 {a : Bool} (h : (!true || !a) = true) : a = false := by cases a <;> simp_all
theorem nt2 {a : Bool} (h : (!true || (false || !a)) = true) : a = false := by cases a <;> simp_all
abbrev sAreW : Stmt := top 13
theorem sc_arew : FnScope ["value", "symbols", "least", "word", "symbol"] ["value", "symbols", "least"] (defScope sAreW) := ⟨rfl, rfl, rfl, by decide +kernel, rfl, by decide +kernel, by decide +kernel⟩
def spAreW : Sp := fun vs H Q _ => ∃ (ws : List (List Int)) (B l : Int), DTs H vs [wsD ws, .i B, .i l] ∧ ∀ H', Same H H' → Q (.bl (areW B l ws)) H'
theorem ok_arew {f : Addr} {fd : FuncData} (F : Fun K "are_words" "are_words" sAreW f fd) (T : Tx K mg CR CS CF) : FnOk P w K mg base CX0 1 f fd ["value", "symbols", "least"] spAreW := by
  refine F.ok sc_arew (fun vs H Q E h => ?_) (fun cdv A outer s H vs Q E hr h => ?_)
  · obtain ⟨_, _, _, hd, _⟩ := h
    exact hd.length
  · obtain ⟨ws, B, l, hd, k⟩ := h
    have sc := sc_arew
    refine ⟨_, (pss_cons (ps_if (pt_not (pt_val (pe_callB call_isi rfl T.isinstance (by decide +kernel) (pa_cons (pv 0) (pa_cons (pe_bltn rfl T.tuple (by decide +kernel) (v := .ty "tuple") rfl) pa_nil)))))
      (pss_one (ps_ret pe_bl))
      pss_nil)
    (pss_cons (ps_for PassesOwn.never rfl (pi_tup (pv 0)) (pg_name (i := 3) sc.nd rfl (Or.inl rfl))
      (pss_cons (ps_if (PW.pt (pw_or (pt_not (pt_val (pe_callB call_isi rfl T.isinstance (by decide +kernel) (pa_cons (pv 3) (pa_cons (pe_bltn rfl T.tuple (by decide +kernel) (v := .ty "tuple") rfl) pa_nil))))) (pw_or1 (pt_not (pt_chain op_le op_le (pv 2) (pe_callB call_len_seq rfl T.len PySem.boot_len (pa_cons (pv 3) pa_nil)) (pe_const T.MOST_WORD rfl))))))
        (pss_one (ps_ret pe_bl))
        pss_nil)
      (pss_one (ps_for PassesOwn.never rfl (pi_tup (pv 3)) (pg_name (i := 4) sc.nd rfl (Or.inl rfl))
        (pss_one (ps_if (PW.pt (pw_or (pt_not (pt_val (pe_callB call_isi rfl T.isinstance (by decide +kernel) (pa_cons (pv 4) (pa_cons (pe_bltn rfl T.int (by decide +kernel) (v := .ty "int") rfl) pa_nil))))) (pw_or (pt_val (pe_callB call_isi rfl T.isinstance (by decide +kernel) (pa_cons (pv 4) (pa_cons (pe_bltn rfl T.bool (by decide +kernel) (v := .ty "bool") rfl) pa_nil)))) (pw_or1 (pt_not (pt_chain op_le op_lt pe_int (pv 4) (pv 1)))))))
          (pss_one (ps_ret pe_bl))
          pss_nil))))))
    (pss_one (ps_ret pe_bl)))), ?_⟩
    refine q_start hd ?_
    refine q_when (t_not (t_B (e_isi (d := wsD ws) (b := true) isi_tt (fun _ => nofun) (e_var rfl)))) (fun hb H1 e1 => nomatch hb) (fun hb H1 e1 => ?_)
    refine q_forT (ds := ws.map wD) (e_var rfl) fun H2 e2 => ⟨fun j g' H' => ∃ (o3 o4 : Option D), g' = [some (wsD ws), some (.i B), some (.i l), o3, o4] ∧ Same H H' ∧ Same H2 H' ∧ (ws.take j).all (wOk B l) = true, ⟨_, _, rfl, e1.trans e2, Same.refl _, by simp⟩, fun j g' H' ⟨_, _, _, _, e, _⟩ => tpOf e, ?_, ?_⟩
    · rintro j x g' H' hx ⟨o3, o4, rfl, e3, e3b, hall⟩
      obtain ⟨wd, hwd, rfl⟩ := getElem?_map_inv hx
      refine ⟨_, g_name, ?_⟩
      refine q_when (t_or (t_not (t_B (e_isi (d := wD wd) (b := true) isi_tt (fun _ => nofun) (e_var rfl)))) fun _ => (t_not (t_test (e_chain (f := fun i j => decide (i ≤ j)) (f' := fun i j => decide (i ≤ j)) (e_var rfl) (e_lenW (e_var rfl)) fun _ => e_int)))) (fun hb H4 e4 => ?_) (fun hb H4 e4 => ?_)
      · refine s_ret e_bl fun H5 v e5 hv => ?_
        cases hv.b_inv
        have hf : areW B l ws = false := all_false hwd (by
          unfold wOk
          have : (decide (l ≤ (wd.length : Int)) && decide ((wd.length : Int) ≤ 24)) = false := nt1 hb
          rw [this]; rfl)
        have := k H5 ((e3.trans e4).trans e5)
        rw [hf] at this
        exact this
      · have hw : (decide (l ≤ (wd.length : Int)) && decide ((wd.length : Int) ≤ 24)) = true := by simpa using hb
        refine s_forT (ds := wd.map D.i) (e_var rfl) fun H5 e5 => ⟨fun i g' H' => ∃ (o4 : Option D), g' = [some (wsD ws), some (.i B), some (.i l), some (wD wd), o4] ∧ Same H H' ∧ Same H2 H' ∧ Same H5 H' ∧ (wd.take i).all (fun x => decide (0 ≤ x) && decide (x < B)) = true, ⟨_, rfl, (e3.trans e4).trans e5, (e3b.trans e4).trans e5, Same.refl _, by simp⟩, fun j g' H' ⟨_, _, _, _, e, _⟩ => tpOf e, ?_, ?_⟩
        · rintro i y g' H' hy ⟨o4, rfl, e6, e6b, e6c, hall2⟩
          obtain ⟨x, hxx, rfl⟩ := getElem?_map_inv hy
          refine ⟨_, g_name, ?_⟩
          refine s_when (t_or (t_not (t_B (e_isi (d := .i x) (b := true) isi_ii (fun _ => nofun) (e_var rfl)))) fun _ => (t_or (t_B (e_isi (d := .i x) (b := false) isi_ib (fun _ => nofun) (e_var rfl))) fun _ => (t_not (t_test (e_chain (f := fun i j => decide (i ≤ j)) (f' := fun i j => decide (i < j)) e_int (e_var rfl) fun _ => (e_var rfl)))))) (fun hb H7 e7 => ?_) (fun hb H7 e7 => ?_)
          · refine s_ret e_bl fun H8 v e8 hv => ?_
            cases hv.b_inv
            have hx0 : (decide (0 ≤ x) && decide (x < B)) = false := nt2 hb
            have hf : areW B l ws = false := all_false hwd (by
              unfold wOk
              rw [hw, Bool.true_and]
              exact all_false (p := fun x => decide (0 ≤ x) && decide (x < B)) hxx hx0)
            have := k H8 ((e6.trans e7).trans e8)
            rw [hf] at this
            exact this
          · have hx0 : (decide (0 ≤ x) && decide (x < B)) = true := by simpa using hb
            exact n_lp ⟨_, rfl, e6.trans e7, e6b.trans e7, e6c.trans e7, all_take_succ hxx hall2 hx0⟩
        · rintro g' H' ⟨o4, rfl, e6, e6b, e6c, hall2⟩
          refine n_lp ⟨_, _, rfl, e6, e6b, all_take_succ hwd hall ?_⟩
          rw [List.length_map, List.take_length] at hall2
          unfold wOk
          rw [hw, hall2]; rfl
    · rintro g' H' ⟨o3, o4, rfl, e3, e3b, hall⟩
      refine s_ret e_bl fun H5 v e5 hv => ?_
      cases hv.b_inv
      rw [List.length_map, List.take_length] at hall
      have := k H5 (e3.trans e5)
      rw [show areW B l ws = true from hall] at this
      exact this

abbrev sForm : Stmt := top 14
theorem sc_form : FnScope ["value", "states", "symbols", "flipped", "state", "words", "repeats", "first", "number"] ["value", "states", "symbols"] (defScope sForm) := ⟨rfl, rfl, rfl, by decide +kernel, rfl, by decide +kernel, by decide +kernel⟩
def spForm : Sp := fun vs H Q _ => ∃ (sh : Shp) (S B : Int), DTs H vs [shD sh, .i S, .i B] ∧ ∀ H', Same H H' → Q (.bl (hasForm sh S B)) H'
theorem ok_form {f : Addr} {fd : FuncData} (F : Fun K "has_shape_form" "has_shape_form" sForm f fd) (T : Tx K mg CR CS CF) (c_are_words : Cal P w K mg base "are_words" 1 ["value", "symbols", "least"] spAreW) : FnOk P w K mg base CX0 2 f fd ["value", "states", "symbols"] spForm := by
  refine F.ok sc_form (fun vs H Q E h => ?_) (fun cdv A outer s H vs Q E hr h => ?_)
  · obtain ⟨_, _, _, hd, _⟩ := h
    exact hd.length
  · obtain ⟨⟨fl, st, ws, rs, fi⟩, S, B, hd, k⟩ := h
    have sc := sc_form
    refine ⟨_, (pss_cons (ps_if (PW.pt (pw_or (pt_not (pt_val (pe_callB call_isi rfl T.isinstance (by decide +kernel) (pa_cons (pv 0) (pa_cons (pe_bltn rfl T.tuple (by decide +kernel) (v := .ty "tuple") rfl) pa_nil))))) (pw_or1 (pt_cmpR op_ne (pe_callB call_len_seq rfl T.len PySem.boot_len (pa_cons (pv 0) pa_nil)) pe_int (nomark _)))))
      (pss_one (ps_ret pe_bl))
      pss_nil)
    (pss_cons (ps_asg (pv 0) (pg_tup rfl (pgs_cons (pg_name (i := 3) sc.nd rfl (Or.inl rfl)) (pgs_cons (pg_name (i := 4) sc.nd rfl (Or.inl rfl)) (pgs_cons (pg_name (i := 5) sc.nd rfl (Or.inl rfl)) (pgs_cons (pg_name (i := 6) sc.nd rfl (Or.inl rfl)) (pgs_cons (pg_name (i := 7) sc.nd rfl (Or.inl rfl)) pgs_nil)))))))
    (pss_cons (ps_for PassesOwn.never rfl (pi_tup (pe_tup (pa_cons (pv 4) (pa_cons (pv 7) pa_nil)))) (pg_name (i := 8) sc.nd rfl (Or.inl rfl))
      (pss_one (ps_if (PW.pt (pw_or (pt_not (pt_val (pe_callB call_isi rfl T.isinstance (by decide +kernel) (pa_cons (pv 8) (pa_cons (pe_bltn rfl T.int (by decide +kernel) (v := .ty "int") rfl) pa_nil))))) (pw_or1 (pt_val (pe_callB call_isi rfl T.isinstance (by decide +kernel) (pa_cons (pv 8) (pa_cons (pe_bltn rfl T.bool (by decide +kernel) (v := .ty "bool") rfl) pa_nil)))))))
        (pss_one (ps_ret pe_bl))
        pss_nil)))
    (pss_cons (ps_if (PW.pt (pw_or (pt_not (pt_val (pe_callB call_isi rfl T.isinstance (by decide +kernel) (pa_cons (pv 3) (pa_cons (pe_bltn rfl T.bool (by decide +kernel) (v := .ty "bool") rfl) pa_nil))))) (pw_or (pt_not (pt_chain op_le op_lt pe_int (pv 4) (pv 1))) (pw_or1 (pt_not (pt_chain op_le op_le pe_int (pv 7) (pe_const T.MOST_FIRST rfl)))))))
      (pss_one (ps_ret pe_bl))
      pss_nil)
    (pss_cons (ps_if (PW.pt (pw_or (pt_not (pt_val (pe_callX c_are_words (hr.mono (by decide)) rfl (pa_cons (pv 5) (pa_cons (pv 2) (pa_cons pe_int pa_nil)))))) (pw_or1 (pt_not (pt_val (pe_callX c_are_words (hr.mono (by decide)) rfl (pa_cons (pv 6) (pa_cons (pv 2) (pa_cons pe_int pa_nil)))))))))
      (pss_one (ps_ret pe_bl))
      pss_nil)
    (pss_one (ps_ret (pe_and (pe_chain op_le op_le pe_int (pe_callB call_len_seq rfl T.len PySem.boot_len (pa_cons (pv 6) pa_nil)) (pe_const T.MOST_REPEATS rfl)) (pe_one (pe_cmpR op_eq (pe_callB call_len_seq rfl T.len PySem.boot_len (pa_cons (pv 5) pa_nil)) (pe_op op_add (pe_callB call_len_seq rfl T.len PySem.boot_len (pa_cons (pv 6) pa_nil)) pe_int) (nomark _))))))))))), ?_⟩
    refine q_start hd ?_
    refine q_when (t_or (t_not (t_B (e_isi (d := shD ⟨fl, st, ws, rs, fi⟩) (b := true) isi_tt (fun _ => nofun) (e_var rfl)))) fun _ => (t_test (e_neI (e_lenT (ds := [.b fl, .i st, wsD ws, wsD rs, .i fi]) (e_var rfl)) e_int))) (fun hb H1 e1 => nomatch hb) (fun hb H1 e1 => ?_)
    refine q_asgG (d := .t [.b fl, .i st, wsD ws, wsD rs, .i fi]) (e_var rfl) (fun H1 => ((gw_tup (gl_cons (gw_name (by decide)) (gl_cons (gw_name (by decide)) (gl_cons (gw_name (by decide)) (gl_cons (gw_name (by decide)) (gl_cons (gw_name (by decide)) gl_nil))))) rfl) : GsW _ [3, 4, 5, 6, 7] _ _ _ _).gs) fun H2 e2 => ?_
    refine q_forT (e_tup (a_cons (e_var rfl) (a_cons (e_var rfl) a_nil)) (by show 2 ≤ sizeLine; decide)) fun H3 e3 => ⟨fun j g' H' => ∃ o8 : Option D, g' = [some (shD ⟨fl, st, ws, rs, fi⟩), some (.i S), some (.i B), some (.b fl), some (.i st), some (wsD ws), some (wsD rs), some (.i fi), o8] ∧ Same H H' ∧ Same H3 H', ⟨_, rfl, (e1.trans e2).trans e3, Same.refl _⟩, fun j g' H' ⟨_, _, _, e⟩ => tpOf e, ?_, ?_⟩
    · rintro j x g' H' hx ⟨o8, rfl, e4, e4b⟩
      obtain ⟨z, rfl⟩ : ∃ z, x = D.i z := by
        match j, hx with
        | 0, hx => exact ⟨st, (Option.some.inj hx).symm⟩
        | 1, hx => exact ⟨fi, (Option.some.inj hx).symm⟩
        | n + 2, hx => simp at hx
      refine ⟨_, g_name, ?_⟩
      exact s_when (t_or (t_not (t_B (e_isi (d := .i z) (b := true) isi_ii (fun _ => nofun) (e_var rfl)))) fun _ => (t_B (e_isi (d := .i z) (b := false) isi_ib (fun _ => nofun) (e_var rfl)))) (fun hb H5 e5 => nomatch hb) (fun hb H5 e5 => n_lp ⟨_, rfl, e4.trans e5, e4b.trans e5⟩)
    · rintro g' H' ⟨o8, rfl, e4, e4b⟩
      refine q_when (t_or (t_not (t_B (e_isi (d := .b fl) (b := true) isi_bb (fun _ => nofun) (e_var rfl)))) fun _ => (t_or (t_not (t_test (e_chain (f := fun i j => decide (i ≤ j)) (f' := fun i j => decide (i < j)) e_int (e_var rfl) fun _ => (e_var rfl)))) fun _ => (t_not (t_test (e_chain (f := fun i j => decide (i ≤ j)) (f' := fun i j => decide (i ≤ j)) e_int (e_var rfl) fun _ => e_int))))) (fun hb H5 e5 => ?_) (fun hb H5 e5 => ?_)
      · refine s_ret e_bl fun H6 v e6 hv => ?_
        cases hv.b_inv
        have h1 : ((decide (0 ≤ st) && decide (st < S)) && (decide (1 ≤ fi) && decide (fi ≤ 20))) = false := by
          cases q1 : (decide (0 ≤ st) && decide (st < S)) with
          | false => rfl
          | true =>
            rw [q1] at hb
            rw [nt2 hb]; rfl
        have := k H6 ((e4.trans e5).trans e6)
        unfold hasForm at this
        rw [if_pos h1] at this
        exact this
      · have h1 : ¬ ((decide (0 ≤ st) && decide (st < S)) && (decide (1 ≤ fi) && decide (fi ≤ 20))) = false := by
          intro z
          cases q1 : (decide (0 ≤ st) && decide (st < S)) with
          | false => rw [q1] at hb; simp at hb
          | true =>
            rw [q1] at hb z
            rw [Bool.true_and] at z
            rw [z] at hb
            simp at hb
        refine q_when (t_or (t_not (t_B (e_call (d := .b (areW B 0 ws)) (a_cons (e_var rfl) (a_cons (e_var rfl) (a_cons e_int a_nil))) fun H6 vs e6 hd2 Q2 q => ⟨ws, B, 0, hd2, fun H7 e7 => q H7 _ e7 .b⟩))) fun _ => (t_not (t_B (e_call (d := .b (areW B 1 rs)) (a_cons (e_var rfl) (a_cons (e_var rfl) (a_cons e_int a_nil))) fun H6 vs e6 hd2 Q2 q => ⟨rs, B, 1, hd2, fun H7 e7 => q H7 _ e7 .b⟩)))) (fun hb2 H6 e6 => ?_) (fun hb2 H6 e6 => ?_)
        · refine s_ret e_bl fun H7 v e7 hv => ?_
          cases hv.b_inv
          have h2 : (areW B 0 ws && areW B 1 rs) = false := by
            cases q1 : areW B 0 ws with
            | false => rfl
            | true => rw [q1] at hb2; simpa using hb2
          have := k H7 (((e4.trans e5).trans e6).trans e7)
          unfold hasForm at this
          rw [if_neg h1, if_pos h2] at this
          exact this
        · have h2 : ¬ (areW B 0 ws && areW B 1 rs) = false := by
            intro z
            cases q1 : areW B 0 ws with
            | false => rw [q1] at hb2; simp at hb2
            | true =>
              rw [q1] at hb2 z
              rw [Bool.true_and] at z
              rw [z] at hb2
              simp at hb2
          refine s_ret (e_andV (e_chain (f := fun i j => decide (i ≤ j)) (f' := fun i j => decide (i ≤ j)) e_int (e_lenT (ds := rs.map wD) (e_var rfl)) fun _ => e_int) fun _ => (e_eqI (e_lenT (ds := ws.map wD) (e_var rfl)) (e_add (e_lenT (ds := rs.map wD) (e_var rfl)) e_int))) fun H7 v e7 hv => ?_
          cases hv.b_inv
          have := k H7 (((e4.trans e5).trans e6).trans e7)
          unfold hasForm at this
          rw [if_neg h1, if_neg h2] at this
          rw [List.length_map, List.length_map]
          exact this
end
end Tac

namespace Tac
def InB (B : Nat) (w : List Int) : Prop := ∀ x ∈ w, 0 ≤ x ∧ x < B
inductive ItmOk (B : Nat) (first : Int) : Itm → Prop
  | s {x : Int} : 0 ≤ x ∧ x < B → ItmOk B first (.s x)
  | b {w : List Int} {e : Int} : 1 ≤ w.length → w.length ≤ 24 → InB B w → -first ≤ e → e ≤ 0 → ItmOk B first (.b w e)
structure SyOk (m : Mach) (B : Nat) (first : Int) (n : Nat) (s : Sy) : Prop where
  st0 : 0 ≤ s.st
  st1 : s.st < m.length
  sy : 0 ≤ s.sym ∧ s.sym < B
  l : ∀ i ∈ s.left, ItmOk B first i
  r : ∀ i ∈ s.right, ItmOk B first i
  n : s.left.length + s.right.length ≤ n
theorem InB.set {B : Nat} {w : List Int} {k : Nat} {x : Int} (h : InB B w) (hx : 0 ≤ x ∧ x < B) : InB B (w.set k x) := fun y hy => by
  rcases List.mem_or_eq_of_mem_set hy with z | z
  · exact h y z
  · rw [z]; exact hx
theorem InB.getD {B : Nat} {w : List Int} {k : Nat} (h : InB B w) (hk : k < w.length) : 0 ≤ w.getD k 0 ∧ w.getD k 0 < B := by
  rw [List.getD_eq_getElem?_getD, List.getElem?_eq_getElem hk]
  exact h _ (List.getElem_mem hk)
theorem InB.append {B : Nat} {v w : List Int} (h : InB B v) (h2 : InB B w) : InB B (v ++ w) := fun x hx => (List.mem_append.mp hx).elim (h x) (h2 x)
theorem crossGo_ok {m : Mach} {B : Nat} (mo : MachOk m B) {st0 move : Int} : ∀ {f : Nat} {st at_ : Int} {cells w2 : List Int}, 0 ≤ st → st < m.length → 0 ≤ at_ → at_ < cells.length → InB B cells → crossGo m st0 move f st at_ cells = some w2 → w2.length = cells.length ∧ InB B w2
  | 0, _, _, _, _, _, _, _, _, _, h => by cases h
  | f + 1, st, at_, cells, w2, h0, h1, h2, h3, hb, h => by
    have hx := hb.getD (k := at_.toNat) (by omega)
    obtain ⟨row, _, _, _, r1, r2, r3, r4, r5⟩ := ruleOf_at mo ⟨h0, h1⟩ hx
    unfold crossGo at h
    simp only [] at h
    split at h
    · cases h
    · rename_i hns
      have hb2 : InB B (cells.set at_.toNat (ruleOf m st (cells.getD at_.toNat 0)).1) := hb.set ⟨r1, r2⟩
      split at h
      · split at h
        · cases h
          exact ⟨List.length_set, hb2⟩
        · cases h
      · rename_i hin
        have hl : (cells.set at_.toNat (ruleOf m st (cells.getD at_.toNat 0)).1).length = cells.length := List.length_set
        rw [hl] at hin
        have := crossGo_ok mo (by omega) r5 (by omega) (by rw [hl]; omega) hb2 h
        rw [hl] at this
        exact this
theorem crossed_ok {m : Mach} {B : Nat} (mo : MachOk m B) {st move : Int} {w w2 : List Int} (h0 : 0 ≤ st) (h1 : st < m.length) (hw : 1 ≤ w.length) (hb : InB B w) (h : crossed m st w move = some w2) : w2.length = w.length ∧ InB B w2 := by
  unfold crossed at h
  refine crossGo_ok mo h0 h1 ?_ ?_ hb h
  · split <;> omega
  · split <;> omega
theorem splitA_ok {B : Nat} {first : Int} {w : List Int} {e move : Int} {r : List Itm} (hw : ItmOk B first (.b w e)) (he : ¬ first + e < 1) (hr : ∀ i ∈ r, ItmOk B first i) : ∀ i ∈ splitA w e move r, ItmOk B first i := fun i hi => by
  cases hw with
  | b w1 w24 wb e0 e1 =>
    unfold splitA at hi
    rcases List.mem_append.mp hi with z | z
    · obtain ⟨x, hx, rfl⟩ := List.mem_map.mp z
      refine .s (wb x ?_)
      split at hx
      · exact List.mem_reverse.mp hx
      · exact hx
    · rcases List.mem_cons.mp z with z | z
      · rw [z]; exact .b w1 w24 wb (by omega) (by omega)
      · exact hr i z
theorem splitA_cons {w : List Int} {e move : Int} {r : List Itm} (hw : 1 ≤ w.length) : ∃ x t, splitA w e move r = .s x :: t ∧ t.length = w.length + r.length ∧ x ∈ w := by
  unfold splitA
  have : ∃ y ys, (if move = -1 then w.reverse else w) = y :: ys ∧ ys.length + 1 = w.length ∧ y ∈ w := by
    split
    · cases h : w.reverse with
      | nil => rw [← List.length_reverse, h] at hw; simp at hw
      | cons y ys =>
        refine ⟨y, ys, rfl, ?_, ?_⟩
        · rw [← List.length_reverse (as := w), h]; rfl
        · rw [← List.mem_reverse, h]; exact List.mem_cons_self
    · cases w with
      | nil => simp at hw
      | cons y ys => exact ⟨y, ys, rfl, rfl, List.mem_cons_self⟩
  obtain ⟨y, ys, e1, e2, e3⟩ := this
  rw [e1]
  refine ⟨y, ys.map Itm.s ++ .b w (e - 1) :: r, rfl, ?_, e3⟩
  rw [List.length_append, List.length_map, List.length_cons]
  omega
theorem goA_ok {m : Mach} {B : Nat} (mo : MachOk m B) {st move first : Int} (h0 : 0 ≤ st) (h1 : st < m.length) : ∀ {a beh : List Itm} {x : Int} {r l : List Itm}, (∀ i ∈ a, ItmOk B first i) → (∀ i ∈ beh, ItmOk B first i) → goA m st move first a beh = some (x, r, l) →
    (0 ≤ x ∧ x < B) ∧ (∀ i ∈ r, ItmOk B first i) ∧ (∀ i ∈ l, ItmOk B first i) ∧ r.length + l.length ≤ a.length + beh.length + 24
  | [], beh, x, r, l, ha, hb, h => by
    cases h
    have := mo.b2
    exact ⟨⟨Int.le_refl _, by omega⟩, ha, hb, by simp⟩
  | .s y :: a, beh, x, r, l, ha, hb, h => by
    cases h
    have := ha _ List.mem_cons_self
    cases this with
    | s hx => exact ⟨hx, fun i hi => ha i (List.mem_cons_of_mem _ hi), hb, by rw [List.length_cons]; omega⟩
  | .b w e :: a, beh, x, r, l, ha, hb, h => by
    have hw := ha (.b w e) List.mem_cons_self
    have ha2 : ∀ i ∈ a, ItmOk B first i := fun i hi => ha i (List.mem_cons_of_mem _ hi)
    unfold goA at h
    cases hc : crossed m st w move with
    | some w2 =>
      rw [hc] at h
      cases hw with
      | b w1 w24 wb e0 e1 =>
        obtain ⟨q1, q2⟩ := crossed_ok mo h0 h1 w1 wb hc
        have := goA_ok mo h0 h1 (a := a) (beh := .b w2 e :: beh) ha2 (fun i hi => by
          rcases List.mem_cons.mp hi with z | z
          · rw [z]; exact .b (by omega) (by omega) q2 e0 e1
          · exact hb i z) h
        refine ⟨this.1, this.2.1, this.2.2.1, ?_⟩
        have := this.2.2.2
        rw [List.length_cons] at this ⊢
        omega
    | none =>
      rw [hc] at h
      simp only [] at h
      split at h
      · cases h
      · rename_i hne
        have hw' := hw
        cases hw' with
        | b w1 w24 wb e0 e1 =>
          obtain ⟨y, t, q1, q2, q3⟩ := splitA_cons (e := e) (move := move) (r := a) w1
          have so := splitA_ok (move := move) hw hne ha2
          rw [q1] at h so
          cases h
          refine ⟨wb _ q3, fun i hi => so i (List.mem_cons_of_mem _ hi), hb, ?_⟩
          rw [List.length_cons]
          omega
theorem moveS_ok {m : Mach} {B : Nat} (mo : MachOk m B) {first : Int} {n : Nat} {s s2 : Sy} (ok : SyOk m B first n s) (h : moveS m first s = some s2) : SyOk m B first (n + 25) s2 := by
  obtain ⟨row, _, _, _, r1, r2, r3, r4, r5⟩ := ruleOf_at mo ⟨ok.st0, ok.st1⟩ ok.sy
  have hn := ok.n
  unfold moveS at h
  simp only [] at h
  split at h
  · cases h
  · rename_i hns
    have hb : ∀ (xs : List Itm), (∀ i ∈ xs, ItmOk B first i) → ∀ i ∈ Itm.s (ruleOf m s.st s.sym).1 :: xs, ItmOk B first i := fun xs hxs i hi => by
      rcases List.mem_cons.mp hi with z | z
      · rw [z]; exact .s ⟨r1, r2⟩
      · exact hxs i z
    split at h
    · split at h
      · rename_i x r l hg
        cases h
        obtain ⟨g1, g2, g3, g4⟩ := goA_ok mo (by omega) r5 ok.r (hb _ ok.l) hg
        refine ⟨(show (0:Int) ≤ (ruleOf m s.st s.sym).2.2 by omega), r5, g1, g3, g2, ?_⟩
        rw [List.length_cons] at g4
        show l.length + r.length ≤ _
        omega
      · cases h
    · split at h
      · rename_i x l r hg
        cases h
        obtain ⟨g1, g2, g3, g4⟩ := goA_ok mo (by omega) r5 ok.l (hb _ ok.r) hg
        refine ⟨(show (0:Int) ≤ (ruleOf m s.st s.sym).2.2 by omega), r5, g1, g2, g3, ?_⟩
        rw [List.length_cons] at g4
        show l.length + r.length ≤ _
        omega
      · cases h
theorem initGo_ok {B : Nat} {first : Int} (hf : 1 ≤ first) : ∀ {rs ws : List (List Int)}, (∀ w ∈ rs, 1 ≤ w.length ∧ w.length ≤ 24 ∧ ∀ x ∈ w, 0 ≤ x ∧ x < B) → (∀ w ∈ ws, w.length ≤ 24 ∧ ∀ x ∈ w, 0 ≤ x ∧ x < B) →
    (∀ i ∈ initGo rs ws, ItmOk B first i) ∧ (initGo rs ws).length ≤ rs.length * 25
  | [], ws, _, _ => ⟨(fun i h => nomatch h), Nat.zero_le _⟩
  | _ :: _, [], _, _ => ⟨(fun i h => nomatch h), Nat.zero_le _⟩
  | r :: rs, w :: ws, hr, hw => by
    obtain ⟨i1, i2⟩ := initGo_ok hf (rs := rs) (ws := ws) (fun w h => hr w (List.mem_cons_of_mem _ h)) (fun w h => hw w (List.mem_cons_of_mem _ h))
    obtain ⟨a1, a2, a3⟩ := hr r List.mem_cons_self
    obtain ⟨b1, b2⟩ := hw w List.mem_cons_self
    refine ⟨fun i hi => ?_, ?_⟩
    · have hi : i ∈ Itm.b r 0 :: (w.map Itm.s ++ initGo rs ws) := hi
      rcases List.mem_cons.mp hi with z | z
      · rw [z]; exact .b a1 a2 a3 (by omega) (Int.le_refl _)
      · rcases List.mem_append.mp z with z | z
        · obtain ⟨x, hx, rfl⟩ := List.mem_map.mp z
          exact .s (b2 x hx)
        · exact i1 i z
    · show (Itm.b r 0 :: (w.map Itm.s ++ initGo rs ws)).length ≤ _
      rw [List.length_cons, List.length_append, List.length_map, List.length_cons, Nat.succ_mul]
      omega
theorem sy0_ok {m : Mach} {B : Nat} {sh : Shp} (mo : MachOk m B) (ok : ShpOk sh m.length B) : SyOk m B sh.first 100 (sy0 sh) := by
  have b2 := mo.b2
  have hw := ok.w
  have wl := ok.wl
  have rl := ok.rl2
  obtain ⟨i1, i2⟩ := initGo_ok ok.f1 (rs := sh.reps) (ws := sh.words.tail) ok.r (fun w h => hw w (List.mem_of_mem_tail h))
  have h0 : (sh.words.headD []).length ≤ 24 ∧ ∀ x ∈ sh.words.headD [], 0 ≤ x ∧ x < B := by
    cases h : sh.words with
    | nil => rw [h] at wl; simp at wl
    | cons w ws => exact hw w (by rw [h]; exact List.mem_cons_self)
  refine ⟨ok.st0, ok.st1, ⟨Int.le_refl _, by show (0 : Int) < _; omega⟩, fun i hi => ?_, (fun i h => nomatch h), ?_⟩
  · have hi : i ∈ initI sh := List.mem_reverse.mp hi
    rcases List.mem_append.mp hi with z | z
    · obtain ⟨x, hx, rfl⟩ := List.mem_map.mp z
      exact .s (h0.2 x hx)
    · exact i1 i z
  · show (initI sh).reverse.length + 0 ≤ 100
    rw [List.length_reverse]
    show ((sh.words.headD []).map Itm.s ++ initGo sh.reps sh.words.tail).length + 0 ≤ 100
    rw [List.length_append, List.length_map]
    omega
end Tac

namespace Tac
open PySem PySem.Spec PyProof.Rows L2
theorem DTs.snoc_inv {H : Hp} : ∀ {ds : List D} {vs : List V} {d : D}, DTs H vs (ds ++ [d]) → ∃ ws v, vs = ws ++ [v] ∧ DTs H ws ds ∧ DT H v d
  | [], vs, d, h => by
    obtain ⟨v, r, rfl, h1, h2⟩ := DTs.cons_inv (ds := []) h
    cases h2.nil_inv
    exact ⟨[], v, rfl, .nil, h1⟩
  | x :: ds, vs, d, h => by
    obtain ⟨v, r, rfl, h1, h2⟩ := DTs.cons_inv (ds := ds ++ [d]) h
    obtain ⟨ws, u, rfl, h3, h4⟩ := DTs.snoc_inv h2
    exact ⟨v :: ws, u, rfl, .cons h1 h3, h4⟩
section
variable {K : PySem.W.Frag} {g : Ga} {H H' : Hp} {ta tb tc te : TE} {t u : TT} {d e : D} {R : D → Hp → Prop} {E : Ends} {tz : TS}
/-- xs.pop() -/
theorem m_pop {l : Addr} {ds : List D} (hl : LsD H l (ds ++ [d])) (ha : Ev ta g H (.r l)) : EvM (tBM0 K "list" rPop ta) g H fun d' H2 => d' = d ∧ Fr [l] H H2 ∧ LsD H2 l ds := fun σ s Q q =>
  ha σ H (Same.refl _) s _ fun H1 w e hw => by
    cases hw.r_inv
    obtain ⟨vs, h1, h2⟩ := hl.mono e
    obtain ⟨ws, v, rfl, h3, h4⟩ := h2.snoc_inv
    have f1 : Fr [l] H1 (upd H1 l (.lst ws)) := Fr.upd1 h1 (fun xs q => by cases q)
    have ed : (ws ++ [v]).dropLast = ws := by simp
    refine ⟨.inl ⟨rfl, _, SqL.of h1⟩, l, ws ++ [v], v, rfl, rfl, h1, by simp, ?_⟩
    rw [ed]
    exact q _ v d ((tpOf e).trans f1.tp) (h4.mono f1.tp) ⟨rfl, (Fr.of e).trans f1, ws, upd_same, h3.mono f1.tp⟩
/-- t[i], t any way -/
theorem m_ixC {ds : List D} {i : Int} {Z : Hp → Prop} (h : EvM ta g H fun d' H2 => d' = .t ds ∧ Z H2) (hx : atI ds i = some d) : EvM (tOp (rIxT K) ta (tC (.int i))) g H fun d' H2 => d' = d ∧ Z H2 := fun σ s Q q =>
  h σ s _ fun H1 v d' e hv ⟨hd, hz⟩ => by
    subst hd
    obtain ⟨a, vs, rfl, h1, h2⟩ := hv.t_inv
    obtain ⟨z, h3, h4⟩ := h2.atI hx
    exact ⟨a, vs, i, z, rfl, rfl, SqT.of h1, h3, q H1 z d e h4 ⟨rfl, hz⟩⟩
/-- o.f = e, e any way, f there -/
theorem s_fldS {Nm : List Str} {p C : Addr} {f : Str} (i : Nat) (c : Cls K C) (na : NoAttr K C f) (nd : Nm.Nodup) (hN : Nm[i]? = some f) (hl : Nm.length < 100) (h : EvM te g H R)
    (k : ∀ H1 d, Tp H H1 → R d H1 → ∃ ds, Ob Nm H1 p C ds ∧ i < ds.length ∧ Ev ta g H1 (.r p) ∧ ∀ H2, Fr [p] H1 H2 → Ob Nm H2 p C (ds.set i d) → N E g H2) : W (sFld K ta te f) E g H := fun σ s =>
  h σ s _ fun H1 v d e hv hR => by
    obtain ⟨ds, ob, hi, ha, k⟩ := k H1 d e hR
    refine ha σ H1 (Same.refl _) (s.mono e) _ fun H2 w e2 hw => ?_
    obtain ⟨dx, vs, h1, h2⟩ := ob.mono e2
    have f1 : Fr [p] H2 (upd H2 p (.ins C dx (putF f v (Nm.zip vs)))) := Fr.upd1 h1 (fun xs q => by cases q)
    refine ⟨p, C, dx, _, hw.r_inv, h1, c, na, zip_len hl, k _ ((Fr.of e2).trans f1) ⟨dx, vs.set i v, ?_, ?_⟩ σ ((s.mono (e.trans (tpOf e2))).mono f1.tp)⟩
    · rw [upd_same, putF_zip nd hN (by rw [h2.length]; exact hi)]
    · exact (h2.set (hv.mono (tpOf e2)) i).mono f1.tp
theorem q_fldS {Nm : List Str} {p C : Addr} {f : Str} (i : Nat) (c : Cls K C) (na : NoAttr K C f) (nd : Nm.Nodup) (hN : Nm[i]? = some f) (hl : Nm.length < 100) (h : EvM te g H R)
    (k : ∀ H1 d, Tp H H1 → R d H1 → ∃ ds, Ob Nm H1 p C ds ∧ i < ds.length ∧ Ev ta g H1 (.r p) ∧ ∀ H2, Fr [p] H1 H2 → Ob Nm H2 p C (ds.set i d) → W tz E g H2) : W (tSeq (sFld K ta te f) tz) E g H := s_fldS (E := { E with nx := tz E }) i c na nd hN hl h k
end
theorem LsD.ne2 {H : Hp} {l r : Addr} {ds : List D} (h : LsD H l ds) (k : H r = none) : l ≠ r := by
  obtain ⟨vs, h1, _⟩ := h
  exact ne_of_none h1 k
theorem row_at {m : Mach} {B : Nat} (mo : MachOk m B) {s x : Int} (hs : 0 ≤ s ∧ s < m.length) (hx : 0 ≤ x ∧ x < B) :
    ∃ row, atI (m.map rowD) s = some (rowD row) ∧ atI (row.map ruleD) x = some (ruleD (ruleOf m s x)) := by
  obtain ⟨row, hrow, hrul, _⟩ := ruleOf_at mo hs hx
  refine ⟨row, ?_, ?_⟩
  · have := atI_get (k := s.toNat) (by rw [List.getElem?_map, hrow]; rfl : (m.map rowD)[s.toNat]? = some (rowD row))
    rwa [show ((s.toNat : Nat) : Int) = s by omega] at this
  · have := atI_get (k := x.toNat) (by rw [List.getElem?_map, hrul]; rfl : (row.map ruleD)[x.toNat]? = some (ruleD (ruleOf m s x)))
    rwa [show ((x.toNat : Nat) : Int) = x by omega] at this
section
variable {P : Program} {w : World} {K : PySem.W.Frag} {mg : Str → Option Value} {base : Heap} {CR CS CF : Addr}
/-- a Symbolic at p -/
def syDs (m : Mach) (first st sym : Int) (l r : Addr) : List D := [machD m, .i first, .i st, .i sym, .r l, .r r]
structure SyAt (H : Hp) (p l r C : Addr) (m : Mach) (first : Int) (s : Sy) : Prop where
  ob : Ob NS H p C (syDs m first s.st s.sym l r)
  lsl : LsD H l (s.left.reverse.map itmD)
  lsr : LsD H r (s.right.reverse.map itmD)
  ne : l ≠ r
theorem SyAt.mono {H H' : Hp} {p l r C : Addr} {m : Mach} {f : Int} {s : Sy} (h : SyAt H p l r C m f s) (e : Same H H') : SyAt H' p l r C m f s := ⟨h.ob.mono e, h.lsl.mono e, h.lsr.mono e, h.ne⟩

/-! ### Symbolic.__init__ -/
abbrev sSInit : Stmt := inClass (top 17) 0
theorem sc_sinit : FnScope ["self", "machine", "shape", "symbol", "at", "repeat"] ["self", "machine", "shape"] (defScope sSInit) := ⟨rfl, rfl, rfl, by decide +kernel, rfl, by decide +kernel, by decide +kernel⟩
def spSInit (CS : Addr) : Sp := fun vs H Q _ => ∃ (p : Addr) (m : Mach) (sh : Shp), DTs H vs [.r p, machD m, shD sh] ∧ Ob ([] : List Str) H p CS [] ∧ TapOk sh ∧ ∀ H' l r, Fr [p] H H' → H l = none → H r = none → SyAt H' p l r CS m sh.first (sy0 sh) → Q .non H'
theorem initI_go (w0 : List Int) (rs ws : List (List Int)) : (w0.map Itm.s ++ initGo rs ws).map itmD = w0.map (fun x => itmD (.s x)) ++ (initGo rs ws).map itmD := by
  rw [List.map_append, List.map_map]; rfl
theorem ok_sinit {f : Addr} {fd : FuncData} (F : Fun K "__init__" "Symbolic.__init__" sSInit f fd) (T : Tx K mg CR CS CF) : FnOk P w K mg base CX0 1 f fd ["self", "machine", "shape"] (spSInit CS) := by
  refine F.ok sc_sinit (fun vs H Q E h => ?_) (fun cdv A outer s H vs Q E hr h => ?_)
  · obtain ⟨_, _, _, hd, _⟩ := h
    exact hd.length
  · obtain ⟨p, m, ⟨flip, st, words, reps, first⟩, hd, ob, ok, k⟩ := h
    have sc := sc_sinit
    have wl : words.length = reps.length + 1 := ok.wl
    have rl : reps.length ≤ 2 := ok.rl
    obtain ⟨w0, ws, rfl⟩ : ∃ w0 ws, words = w0 :: ws := by
      cases words with
      | nil => simp at wl
      | cons w0 ws => exact ⟨w0, ws, rfl⟩
    have wl : ws.length = reps.length := by simpa using wl
    have hw0 : w0.length ≤ 1000 := ok.w w0 List.mem_cons_self
    refine ⟨_, (pss_cons (ps_fld (pv 0) (pv 1) rfl)
    (pss_cons (ps_fld (pv 0) (pe_ix ix_tup (pv 2) pe_int (fun _ _ => rfl)) rfl)
    (pss_cons (ps_fld (pv 0) (pe_ix ix_tup (pv 2) pe_int (fun _ _ => rfl)) rfl)
    (pss_cons (ps_fld (pv 0) pe_int rfl)
    (pss_cons (ps_fld (pv 0) (pe_lst pa_nil) rfl)
    (pss_cons (ps_fld (pv 0) (pe_lst pa_nil) rfl)
    (pss_cons (ps_for PassesOwn.never rfl (pi_tup (pe_ix ix_tup (pe_ix ix_tup (pv 2) pe_int (fun _ _ => rfl)) pe_int (fun _ _ => rfl))) (pg_name (i := 3) sc.nd rfl (Or.inl rfl))
      (pss_one (ps_expr (pe_bm PySem.F.plainAttrs_list PySem.F.slot_list_append PySem.F.type_list_append mt_append (pe_fld (pv 0) rfl) (pa_cons (pe_tup (pa_cons (pv 3) (pa_cons pe_non (pa_cons pe_int pa_nil)))) pa_nil)))))
    (pss_one (ps_for PassesOwn.never rfl (pi_enumT rfl T.enumerate (pa_cons (pe_ix ix_tup (pv 2) pe_int (fun _ _ => rfl)) pa_nil)) (pg_tup rfl (pgs_cons (pg_name (i := 4) sc.nd rfl (Or.inl rfl)) (pgs_cons (pg_name (i := 5) sc.nd rfl (Or.inl rfl)) pgs_nil)))
      (pss_cons (ps_expr (pe_bm PySem.F.plainAttrs_list PySem.F.slot_list_append PySem.F.type_list_append mt_append (pe_fld (pv 0) rfl) (pa_cons (pe_tup (pa_cons pe_int (pa_cons (pv 5) (pa_cons pe_int pa_nil)))) pa_nil)))
      (pss_one (ps_for PassesOwn.never rfl (pi_tup (pe_ix ix_tup (pe_ix ix_tup (pv 2) pe_int (fun _ _ => rfl)) (pe_op op_add (pv 4) pe_int) (fun _ _ => rfl))) (pg_name (i := 3) sc.nd rfl (Or.inl rfl))
        (pss_one (ps_expr (pe_bm PySem.F.plainAttrs_list PySem.F.slot_list_append PySem.F.type_list_append mt_append (pe_fld (pv 0) rfl) (pa_cons (pe_tup (pa_cons (pv 3) (pa_cons pe_non (pa_cons pe_int pa_nil)))) pa_nil)))))))))))))))), ?_⟩
    refine q_start hd ?_
    refine q_fldN 0 T.clS T.nS_machine ndS rfl (by decide) (ob.re (Nm := NS)) rfl (e_var rfl) (e_var rfl) fun H1 f1 ob => ?_
    refine q_fldN 1 T.clS T.nS_first ndS rfl (by decide) ob rfl (e_ixT (d := .i first) rfl (e_var rfl) e_int) (e_var rfl) fun H2 f2 ob => ?_
    refine q_fldN 2 T.clS T.nS_state ndS rfl (by decide) ob rfl (e_ixT (d := .i st) rfl (e_var rfl) e_int) (e_var rfl) fun H3 f3 ob => ?_
    refine q_fldN 3 T.clS T.nS_symbol ndS rfl (by decide) ob rfl e_int (e_var rfl) fun H4 f4 ob => ?_
    have f14 := ((f1.trans f2).trans f3).trans f4
    refine q_fldM (p := p) 4 T.clS T.nS_left ndS rfl (by decide) (l_lst a_nil (by show 0 ≤ sizeLine; decide)).m fun H5 dd t5 ⟨e5, l, vs, hdd, hn, hl1, hl2⟩ => ?_
    subst hdd
    obtain ⟨o1, ho1⟩ := ob.some
    have npl : p ≠ l := ne_of_none ho1 hn
    refine ⟨_, ob.mono e5, rfl, e_var rfl, fun H6 f6 ob => ?_⟩
    have hl6 : LsD H6 l [] := LsD.fr ⟨vs, hl1, hl2⟩ f6 (by simpa using npl.symm)
    refine q_fldM (p := p) 5 T.clS T.nS_right ndS rfl (by decide) (l_lst a_nil (by show 0 ≤ sizeLine; decide)).m fun H7 dd t7 ⟨e7, r, us, hdd, hnr, hr1, hr2⟩ => ?_
    subst hdd
    obtain ⟨o2, ho2⟩ := ob.some
    have npr : p ≠ r := ne_of_none ho2 hnr
    have nlr : l ≠ r := hl6.ne2 hnr
    refine ⟨_, ob.mono e7, rfl, e_var rfl, fun H8 f8 ob => ?_⟩
    have hl8 : LsD H8 l [] := (hl6.mono e7).fr f8 (by simpa using npl.symm)
    have hr8 : LsD H8 r [] := LsD.fr ⟨us, hr1, hr2⟩ f8 (by simpa using npr.symm)
    have ob8 : Ob NS H8 p CS (syDs m first st 0 l r) := ob
    have f48 : Fr [p] H H8 := (f14.trans ((Fr.of e5).trans f6)).trans ((Fr.of e7).trans f8)
    have hnl0 : H l = none := f14.nn l hn
    have hnr0 : H r = none := (f14.trans ((Fr.of e5).trans f6)).nn r hnr
    have rwds : ∀ {g : Ga} {H : Hp}, Ev (tVar 2) g H (shD ⟨flip, st, w0 :: ws, reps, first⟩) → Ev (tOp (rIxT K) (tVar 2) (tC (.int 2))) g H (wsD (w0 :: ws)) := fun h => e_ixT rfl h e_int
    refine q_forT (ds := w0.map D.i) (e_ixT (d := wD w0) (atI_get (k := 0) rfl) (rwds (e_var rfl)) e_int) fun H9 e9 => ⟨fun j g' H' => ∃ o3 o4 o5 : Option D, g' = [some (.r p), some (machD m), some (shD ⟨flip, st, w0 :: ws, reps, first⟩), o3, o4, o5] ∧ Fr [l] H9 H' ∧ LsD H' l ((w0.take j).map fun x => itmD (.s x)),
      ⟨_, _, _, rfl, Fr.refl, by simpa using hl8.mono e9⟩, fun j g' H' ⟨_, _, _, _, e, _⟩ => e.tp, ?_, ?_⟩
    · rintro j x g' H' hx ⟨o3, o4, o5, rfl, f10, hl⟩
      obtain ⟨y, hy, rfl⟩ := getElem?_map_inv hx
      have hj := (List.getElem?_eq_some_iff.mp hy).1
      refine ⟨_, g_name, ?_⟩
      have ob10 := (ob8.mono e9).fr f10 (by simpa using npl)
      refine s_app hl (by rw [List.length_map, List.length_take]; exact lt100000 (by omega)) (e_fld 4 ob10 T.clS T.nS_left ndS rfl rfl (e_var rfl)) (e_tup (a_cons (e_var rfl) (a_cons e_non (a_cons e_int a_nil))) (by show 3 ≤ sizeLine; decide)) fun H11 f11 hl11 => n_lp ⟨_, _, _, rfl, f10.trans f11, ?_⟩
      rw [take_succ hy, List.map_append]
      exact hl11
    · rintro g' H' ⟨o3, o4, o5, rfl, f10, hl⟩
      rw [List.length_map, List.take_length] at hl
      have ob10 := (ob8.mono e9).fr f10 (by simpa using npl)
      have hr10 := (hr8.mono e9).fr f10 (by simpa using nlr.symm)
      have f910 : Fr [p, l] H H' := ((f48.trans (Fr.of e9)).sub sub1).trans (f10.sub sub2)
      refine s_forET (a_cons (e_ixT (d := wsD reps) rfl (e_var rfl) e_int) a_nil) fun Ha ea => ⟨fun j g' H' => ∃ o3 o4 o5 : Option D, g' = [some (.r p), some (machD m), some (shD ⟨flip, st, w0 :: ws, reps, first⟩), o3, o4, o5] ∧ Fr [l] Ha H' ∧ ∃ its : List Itm, LsD H' l (its.map itmD) ∧ its ++ initGo (reps.drop j) (ws.drop j) = w0.map Itm.s ++ initGo reps ws ∧ its.length ≤ 1000 + j * 1001,
        ⟨_, _, _, rfl, Fr.refl, w0.map Itm.s, by rw [List.map_map]; exact hl.mono ea, rfl, by rw [List.length_map]; omega⟩, fun j g' H' ⟨_, _, _, _, e, _⟩ => e.tp, ?_, ?_⟩
      · rintro j x g' H' hx ⟨o3, o4, o5, rfl, fb, its, hlb, hits, hlen⟩ Hc ec
        obtain ⟨rp, hrp, rfl⟩ := getElem?_map_inv hx
        have hj : j < reps.length := (List.getElem?_eq_some_iff.mp hrp).1
        have hj2 : j < ws.length := by omega
        have hwj : ws[j].length ≤ 1000 := ok.w _ (List.mem_cons_of_mem _ (List.getElem_mem hj2))
        refine ⟨_, ((gw_tup (gl_cons (gw_name (by decide)) (gl_cons (gw_name (by decide)) gl_nil)) rfl) : GsW _ [4, 5] _ _ _ _).gs, ?_⟩
        have obc := ((ob10.mono ea).fr fb (by simpa using npl)).mono ec
        refine q_app (hlb.mono ec) (by rw [List.length_map]; exact lt100000 (by have : j * 1001 ≤ 1 * 1001 := Nat.mul_le_mul_right _ (by omega); omega)) (e_fld 4 obc T.clS T.nS_left ndS rfl rfl (e_var rfl)) (e_tup (a_cons e_int (a_cons (e_var rfl) (a_cons e_int a_nil))) (by show 3 ≤ sizeLine; decide)) fun Hd fd hld => ?_
        have hwd : atI ((w0 :: ws).map wD) ((j : Int) + 1) = some (wD ws[j]) := by
          rw [show ((j : Int) + 1) = ((j + 1 : Nat) : Int) by omega]
          exact atI_get (by simp [hj2])
        refine s_forT (ds := ws[j].map D.i) (e_ixT (d := wD ws[j]) hwd (rwds (e_var rfl)) (e_add (e_var rfl) e_int)) fun He ee => ⟨fun i g' H' => ∃ o3 : Option D, g' = [some (.r p), some (machD m), some (shD ⟨flip, st, w0 :: ws, reps, first⟩), o3, some (.i j), some (wD rp)] ∧ Fr [l] He H' ∧ LsD H' l ((its ++ Itm.b rp 0 :: (ws[j].take i).map Itm.s).map itmD),
          ⟨_, rfl, Fr.refl, by
            have := hld.mono ee
            simpa [itmD] using this⟩, fun j g' H' ⟨_, _, e, _⟩ => e.tp, ?_, ?_⟩
        · rintro i x g' H' hx ⟨o3, rfl, ff, hlf⟩
          obtain ⟨y, hy, rfl⟩ := getElem?_map_inv hx
          have hi := (List.getElem?_eq_some_iff.mp hy).1
          refine ⟨_, g_name, ?_⟩
          have obf := ((obc.fr fd (by simpa using npl)).mono ee).fr ff (by simpa using npl)
          refine s_app hlf (by
            rw [List.length_map, List.length_append, List.length_cons, List.length_map, List.length_take]
            have : j * 1001 ≤ 1 * 1001 := Nat.mul_le_mul_right _ (by omega)
            exact lt100000 (by omega)) (e_fld 4 obf T.clS T.nS_left ndS rfl rfl (e_var rfl)) (e_tup (a_cons (e_var rfl) (a_cons e_non (a_cons e_int a_nil))) (by show 3 ≤ sizeLine; decide)) fun Hg fg hlg => n_lp ⟨_, rfl, ff.trans fg, ?_⟩
          have : (its ++ Itm.b rp 0 :: (ws[j].take (i + 1)).map Itm.s).map itmD = (its ++ Itm.b rp 0 :: (ws[j].take i).map Itm.s).map itmD ++ [itmD (.s y)] := by
            rw [take_succ hy]
            simp
          rw [this]
          exact hlg
        · rintro g' H' ⟨o3, rfl, ff, hlf⟩
          rw [List.length_map, List.take_length] at hlf
          refine n_lp ⟨_, _, _, rfl, ((fb.trans (Fr.of ec)).trans fd).trans ((Fr.of ee).trans ff), _, hlf, ?_, ?_⟩
          · rw [← hits, List.drop_eq_getElem_cons hj, List.drop_eq_getElem_cons hj2]
            have : reps[j] = rp := by
              have := List.getElem?_eq_getElem hj
              rw [hrp] at this
              exact (Option.some.inj this).symm
            rw [this]
            show _ = its ++ (Itm.b rp 0 :: ws[j].map Itm.s ++ initGo (reps.drop (j + 1)) (ws.drop (j + 1)))
            simp only [List.append_assoc, List.cons_append]
          · rw [List.length_append, List.length_cons, List.length_map, Nat.succ_mul]
            omega
      · rintro g' H' ⟨o3, o4, o5, rfl, fb, its, hlb, hits, hlen⟩
        have hdr : initGo (reps.drop (List.map wD reps).length) (ws.drop (List.map wD reps).length) = [] := by
          rw [List.length_map, List.drop_of_length_le (Nat.le_refl _)]; rfl
        rw [hdr, List.append_nil] at hits
        refine fun _ _ => k H' l r ?_ hnl0 hnr0 ⟨?_, ?_, ?_, nlr⟩
        · have fr : Fr [p, l] H H' := (f910.trans (Fr.of ea)).trans (fb.sub sub2)
          exact ⟨fun b o hb hn => fr.kp b o hb (fun z => by
            rcases List.mem_cons.mp z with z | z
            · exact hn (by rw [z]; exact List.mem_cons_self)
            · rw [List.mem_singleton.mp z, hnl0] at hb; cases hb), fr.tp, fr.nn⟩
        · exact (ob10.mono ea).fr fb (by simpa using npl)
        · show LsD H' l ((((w0.map Itm.s ++ initGo reps ws).reverse).reverse).map itmD)
          rw [List.reverse_reverse, ← hits]; exact hlb
        · exact (hr10.mono ea).fr fb (by simpa using nlr.symm)
end
end Tac

namespace Tac
open PySem PySem.Spec PyProof.Rows L2
section
variable {P : Program} {w : World} {K : PySem.W.Frag} {mg : Str → Option Value} {base : Heap} {CR CS CF : Addr}
def optD : Option (List Int) → D
  | none => .n
  | some w => wD w
theorem ixN_of {n : Nat} {x : Int} (h0 : 0 ≤ x) (h : x < n) : ixN n x = some x.toNat := by
  unfold ixN
  rw [if_pos h0, if_pos (by omega)]

/-! ### Symbolic.crossed -/
abbrev sSCross : Stmt := inClass (top 17) 1
theorem sc_scross : FnScope ["self", "word", "move", "cells", "at", "state", "_", "write", "turn"] ["self", "word", "move"] (defScope sSCross) := ⟨rfl, rfl, rfl, by decide +kernel, rfl, by decide +kernel, by decide +kernel⟩
def spSCross (CS : Addr) : Sp := fun vs H Q _ => ∃ (p : Addr) (m : Mach) (B : Nat) (first st sym : Int) (l r : Addr) (wd : List Int) (mv : Int), DTs H vs [.r p, wD wd, .i mv] ∧ Ob NS H p CS (syDs m first st sym l r) ∧ MachOk m B ∧ (0 ≤ st ∧ st < m.length) ∧ (1 ≤ wd.length ∧ wd.length ≤ 1000) ∧ InB B wd ∧
  ∀ H' v, Same H H' → DT H' v (optD (crossed m st wd mv)) → Q v H'
theorem ok_scross {f : Addr} {fd : FuncData} (F : Fun K "crossed" "Symbolic.crossed" sSCross f fd) (T : Tx K mg CR CS CF) : FnOk P w K mg base CX0 1 f fd ["self", "word", "move"] (spSCross CS) := by
  refine F.ok sc_scross (fun vs H Q E h => ?_) (fun cdv A outer s H vs Q E hr h => ?_)
  · obtain ⟨_, _, _, _, _, _, _, _, _, _, hd, _⟩ := h
    exact hd.length
  · obtain ⟨p, m, B, first, st, sym, l, r, wd, mv, hd, ob, mo, ⟨st0, st1⟩, ⟨w1, w2⟩, wb, k⟩ := h
    have sc := sc_scross
    refine ⟨_, (pss_cons (ps_set (i := 3) sc.nd rfl (Or.inl rfl) (pe_callTy call_list_of rfl T.list (by decide +kernel) (pa_cons (pv 1) pa_nil)))
    (pss_cons (ps_set (i := 4) sc.nd rfl (Or.inl rfl) (pe_ifExp (pt_cmpR op_eq (pv 2) pe_int (nomark _)) pe_int (pe_op op_sub (pe_callB call_len_seq rfl T.len PySem.boot_len (pa_cons (pv 3) pa_nil)) pe_int)))
    (pss_cons (ps_set (i := 5) sc.nd rfl (Or.inl rfl) (pe_fld (pv 0) rfl))
    (pss_cons (ps_for PassesOwn.never rfl (pi_range1 rfl T.range (pa_cons (pe_const T.MOST_CROSSING rfl) pa_nil)) (pg_name (i := 6) sc.nd rfl (Or.inl rfl))
      (pss_cons (ps_asg (pe_ix ix_tup (pe_ix ix_tup (pe_fld (pv 0) rfl) (pv 5) (fun _ _ => rfl)) (pe_ix ix_list (pv 3) (pv 4) (fun _ _ => rfl)) (fun _ _ => rfl)) (pg_tup rfl (pgs_cons (pg_name (i := 7) sc.nd rfl (Or.inl rfl)) (pgs_cons (pg_name (i := 8) sc.nd rfl (Or.inl rfl)) (pgs_cons (pg_name (i := 5) sc.nd rfl (Or.inl rfl)) pgs_nil)))))
      (pss_cons (ps_if (pt_cmpR op_eq (pv 5) (pe_const T.STOP rfl) (nomark _))
        (pss_one (ps_ret pe_non))
        pss_nil)
      (pss_cons (ps_asg (pv 7) (pg_sub (pv 3) (pv 4) set_list))
      (pss_cons (ps_aug (i := 4) sc.nd rfl (Or.inl rfl) (pv 8) ip_add)
      (pss_one (ps_if (PW.pt (pw_or (pt_cmpR op_lt (pv 4) pe_int (nomark _)) (pw_or1 (pt_cmpR op_eq (pv 4) (pe_callB call_len_seq rfl T.len PySem.boot_len (pa_cons (pv 3) pa_nil)) (nomark _)))))
        (pss_cons (ps_if (PW.pt (pw_and (pt_cmpR op_eq (pv 5) (pe_fld (pv 0) rfl) (nomark _)) (pw_and1 (pt_cmpR op_eq (pe_cmpR op_lt (pv 4) pe_int (nomark _)) (pe_cmpR op_eq (pv 2) (pe_un un_neg pe_int) (nomark _)) (nomark _)))))
          (pss_one (ps_ret (pe_callTy call_tuple_of rfl T.tuple (by decide +kernel) (pa_cons (pv 3) pa_nil))))
          pss_nil)
        (pss_one (ps_ret pe_non)))
        pss_nil)))))))
    (pss_one (ps_ret pe_non)))))), ?_⟩
    refine q_start hd ?_
    refine q_asgL (l_listT (e_var rfl)) fun H1 c e1 hc hl1 => ?_
    refine q_asg (d := .i (if mv = 1 then 0 else (wd.length : Int) - 1)) (e_if (t_test (e_eqI (e_var rfl) e_int)) (fun hb => e_int.is (by rw [if_pos (of_decide_eq_true hb)])) fun hb => (e_sub (e_lenL hl1 (e_var rfl)) e_int).is (by rw [if_neg (of_decide_eq_false hb), List.length_map])) fun H2 e2 => ?_
    have ob2 := (ob.mono e1).mono e2
    refine q_asg (e_fld 2 ob2 T.clS T.nS_state ndS rfl rfl (e_var rfl)) fun H3 e3 => ?_
    refine q_forR (a_cons e_int a_nil) ⟨by decide, by decide⟩ fun H4 e4 => ⟨fun j g' H' => ∃ (o6 o7 o8 : Option D) (at_ s' : Int) (cs : List Int), g' = [some (.r p), some (wD wd), some (.i mv), some (.r c), some (.i at_), some (.i s'), o6, o7, o8] ∧ Same H H' ∧ LsD H' c (cs.map D.i) ∧
      (0 ≤ s' ∧ s' < m.length) ∧ (0 ≤ at_ ∧ at_ < cs.length) ∧ cs.length = wd.length ∧ InB B cs ∧ j ≤ 500 ∧ crossed m st wd mv = crossGo m st mv (500 - j) s' at_ cs,
      ⟨_, _, _, _, _, wd, rfl, ((e1.trans e2).trans e3).trans e4, ((hl1.mono e2).mono e3).mono e4, ⟨st0, st1⟩, by split <;> omega, rfl, wb, Nat.zero_le _, rfl⟩, ?_, ?_⟩
    · rintro j g' H' hj ⟨o6, o7, o8, at_, s', cs, rfl, e5, hl5, ⟨s0, s1⟩, ⟨a0, a1⟩, hcs, cb, hj5, hcr⟩
      refine ⟨_, g_name, ?_⟩
      have ob5 := ob.mono e5
      have hx := cb.getD (k := at_.toNat) (by omega)
      obtain ⟨row, q1, q2⟩ := row_at mo ⟨s0, s1⟩ hx
      obtain ⟨_, _, _, _, r1, r2, r3, r4, r5⟩ := ruleOf_at mo ⟨s0, s1⟩ hx
      have hrun : crossed m st wd mv = (let u := ruleOf m s' (cs.getD at_.toNat 0)
        if u.2.2 = -1 then none else
          let c2 := cs.set at_.toNat u.1
          let a2 := at_ + u.2.1
          if a2 < 0 ∨ a2 = (c2.length : Int) then
            if u.2.2 = st ∧ decide (a2 < 0) = decide (mv = -1) then some c2 else none
          else crossGo m st mv (500 - (j + 1)) u.2.2 a2 c2) := by
        rw [hcr, show 500 - j = (500 - (j + 1)) + 1 by omega]
        rfl
      generalize ruleOf m s' (cs.getD at_.toNat 0) = u at *
      obtain ⟨uw, um, us⟩ := u
      refine q_asgG (e_ixT q2 (e_ixT (d := rowD row) q1 (e_fld 0 ob5 T.clS T.nS_machine ndS rfl rfl (e_var rfl)) (e_var rfl)) (e_ixL hl5 (atI_intZ a0 a1) (e_var rfl) (e_var rfl))) (fun H1 => ((gw_tup (gl_cons (gw_name (by decide)) (gl_cons (gw_name (by decide)) (gl_cons (gw_name (by decide)) gl_nil))) rfl) : GsW _ [7, 8, 5] _ _ _ _).gs) fun H6 e6 => ?_
      refine q_when (t_test (e_eqI (e_var rfl) e_int)) (fun hb H7 e7 => ?_) (fun hb H7 e7 => ?_)
      · refine s_ret e_non fun H8 v e8 hv => k H8 v (((e5.trans e6).trans e7).trans e8) ?_
        rw [hrun]
        show DT H8 v (optD (if us = -1 then none else _))
        rw [if_pos (of_decide_eq_true hb)]
        exact hv
      · have hns : us ≠ -1 := of_decide_eq_false hb
        have e57 := (e5.trans e6).trans e7
        refine q_setL ((hl5.mono e6).mono e7) (ixN_of a0 (by rw [List.length_map]; exact a1)) (e_var rfl) (e_var rfl) (e_var rfl) fun H8 f8 hl8 => ?_
        have e58 : Same H H8 := f8.same e57 fun b hb => by rw [List.mem_singleton.mp hb]; exact hc
        have hl8' : LsD H8 c ((cs.set at_.toNat uw).map D.i) := by rw [List.map_set]; exact hl8
        refine q_augI rfl (e_var rfl) fun H9 e9 => ?_
        have hl9 := hl8'.mono e9
        have ob9 := (ob.mono e58).mono e9
        refine s_when (t_or (t_test (e_lt (e_var rfl) e_int)) fun _ => (t_test (e_eqI (e_var rfl) (e_lenL hl9 (e_var rfl))))) (fun hb2 Ha ea => ?_) (fun hb2 Ha ea => ?_)
        · have hout : at_ + um < 0 ∨ at_ + um = ((cs.set at_.toNat uw).length : Int) := by
            have := Bool.or_eq_true_iff.mp hb2
            rcases this with z | z
            · exact .inl (of_decide_eq_true z)
            · have := of_decide_eq_true z
              rw [List.length_map] at this
              exact .inr this
          refine q_when (t_and (t_test (e_eqI (e_var rfl) (e_fld 2 (ob9.mono ea) T.clS T.nS_state ndS rfl rfl (e_var rfl)))) fun _ => (t_test (e_eqB (e_lt (e_var rfl) e_int) (e_eqI (e_var rfl) (e_neg e_int))))) (fun hb3 Hb eb => ?_) (fun hb3 Hb eb => ?_)
          · refine s_ret (e_tupL ((hl9.mono ea).mono eb) (e_var rfl)) fun Hc v ec hv => k Hc v ((((e58.trans e9).trans ea).trans eb).trans ec) ?_
            have q := Bool.and_eq_true_iff.mp hb3
            rw [hrun]
            show DT Hc v (optD (if us = -1 then none else if at_ + um < 0 ∨ at_ + um = ((cs.set at_.toNat uw).length : Int) then if us = st ∧ decide (at_ + um < 0) = decide (mv = -1) then some (cs.set at_.toNat uw) else none else _))
            rw [if_neg hns, if_pos hout, if_pos ⟨of_decide_eq_true q.1, of_decide_eq_true q.2⟩]
            exact hv
          · refine s_ret e_non fun Hc v ec hv => k Hc v ((((e58.trans e9).trans ea).trans eb).trans ec) ?_
            have hn : ¬ (us = st ∧ decide (at_ + um < 0) = decide (mv = -1)) := fun z => by
              rw [Bool.and_eq_false_iff] at hb3
              rcases hb3 with y | y
              · exact of_decide_eq_false y z.1
              · exact of_decide_eq_false y z.2
            rw [hrun]
            show DT Hc v (optD (if us = -1 then none else if at_ + um < 0 ∨ at_ + um = ((cs.set at_.toNat uw).length : Int) then if us = st ∧ decide (at_ + um < 0) = decide (mv = -1) then some (cs.set at_.toNat uw) else none else _))
            rw [if_neg hns, if_pos hout, if_neg hn]
            exact hv
        · have hin : ¬ (at_ + um < 0 ∨ at_ + um = ((cs.set at_.toNat uw).length : Int)) := by
            have := Bool.or_eq_false_iff.mp hb2
            have z1 := of_decide_eq_false this.1
            have z2 := of_decide_eq_false this.2
            rw [List.length_map] at z2
            exact fun z => z.elim z1 z2
          have hl : (cs.set at_.toNat uw).length = cs.length := List.length_set
          have r3' : um = 1 ∨ um = -1 := r3
          have r4' : -1 ≤ us := r4
          rw [hl] at hin
          refine n_lp ⟨_, _, _, at_ + um, us, cs.set at_.toNat uw, rfl, (e58.trans e9).trans ea, hl9.mono ea, ⟨by omega, r5⟩, by rw [hl]; omega, by rw [hl]; exact hcs, cb.set ⟨r1, r2⟩, by omega, ?_⟩
          rw [hrun]
          show (if us = -1 then none else if at_ + um < 0 ∨ at_ + um = ((cs.set at_.toNat uw).length : Int) then _ else _) = _
          rw [if_neg hns, hl, if_neg hin]
    · rintro g' H' ⟨o6, o7, o8, at_, s', cs, rfl, e5, hl5, _, _, _, _, _, hcr⟩
      refine s_ret e_non fun H8 v e8 hv => k H8 v (e5.trans e8) ?_
      rw [hcr]
      exact hv

/-! ### Symbolic.split -/
abbrev sSSplit : Stmt := inClass (top 17) 2
theorem sc_ssplit : FnScope ["self", "ahead", "move", "_", "word", "more", "symbols", "symbol"] ["self", "ahead", "move"] (defScope sSSplit) := ⟨rfl, rfl, rfl, by decide +kernel, rfl, by decide +kernel, by decide +kernel⟩
def spSSplit (CS : Addr) : Sp := fun vs H Q _ => ∃ (p a : Addr) (m : Mach) (first st sym : Int) (l r : Addr) (wd : List Int) (e mv : Int) (rest : List Itm), DTs H vs [.r p, .r a, .i mv] ∧ Ob NS H p CS (syDs m first st sym l r) ∧ LsD H a ((Itm.b wd e :: rest).reverse.map itmD) ∧ (1 ≤ wd.length ∧ wd.length ≤ 1000) ∧ rest.length ≤ 90000 ∧
  (first + e < 1 → ∀ H', Fr [p, a] H H' → Q (.bl false) H') ∧ (¬ first + e < 1 → ∀ H' y r2, splitA wd e mv rest = .s y :: r2 → Fr [p, a] H H' → Ob NS H' p CS (syDs m first st y l r) → LsD H' a (r2.reverse.map itmD) → Q (.bl true) H')
theorem rev_cons_map (i : Itm) (r : List Itm) : (i :: r).reverse.map itmD = r.reverse.map itmD ++ [itmD i] := by simp
theorem ok_ssplit {f : Addr} {fd : FuncData} (F : Fun K "split" "Symbolic.split" sSSplit f fd) (T : Tx K mg CR CS CF) : FnOk P w K mg base CX0 1 f fd ["self", "ahead", "move"] (spSSplit CS) := by
  refine F.ok sc_ssplit (fun vs H Q E h => ?_) (fun cdv A outer s H vs Q E hr h => ?_)
  · obtain ⟨_, _, _, _, _, _, _, _, _, _, _, _, hd, _⟩ := h
    exact hd.length
  · obtain ⟨p, a, m, first, st, sym, l, r, wd, e, mv, rest, hd, ob, hl, ⟨w1, w2⟩, hrl, k1, k2⟩ := h
    have sc := sc_ssplit
    refine ⟨_, (pss_cons (ps_asg (pe_bm0 PySem.F.plainAttrs_list PySem.F.slot_list_pop PySem.F.type_list_pop mt_pop (pv 1)) (pg_tup rfl (pgs_cons (pg_name (i := 3) sc.nd rfl (Or.inl rfl)) (pgs_cons (pg_name (i := 4) sc.nd rfl (Or.inl rfl)) (pgs_cons (pg_name (i := 5) sc.nd rfl (Or.inl rfl)) pgs_nil)))))
    (pss_cons (ps_if (pt_cmpR op_lt (pe_op op_add (pe_fld (pv 0) rfl) (pv 5)) pe_int (nomark _))
      (pss_one (ps_ret pe_bl))
      pss_nil)
    (pss_cons (ps_expr (pe_bm PySem.F.plainAttrs_list PySem.F.slot_list_append PySem.F.type_list_append mt_append (pv 1) (pa_cons (pe_tup (pa_cons pe_int (pa_cons (pv 4) (pa_cons (pe_op op_sub (pv 5) pe_int) pa_nil)))) pa_nil)))
    (pss_cons (ps_set (i := 6) sc.nd rfl (Or.inl rfl) (pe_ifExp (pt_cmpR op_eq (pv 2) (pe_un un_neg pe_int) (nomark _)) (pv 4) (pe_revT (pv 4))))
    (pss_cons (ps_for PassesOwn.never rfl (pi_tup (pv 6)) (pg_name (i := 7) sc.nd rfl (Or.inl rfl))
      (pss_one (ps_expr (pe_bm PySem.F.plainAttrs_list PySem.F.slot_list_append PySem.F.type_list_append mt_append (pv 1) (pa_cons (pe_tup (pa_cons (pv 7) (pa_cons pe_non (pa_cons pe_int pa_nil)))) pa_nil)))))
    (pss_cons (ps_fld (pv 0) (pe_ix ix_tup (pe_bm0 PySem.F.plainAttrs_list PySem.F.slot_list_pop PySem.F.type_list_pop mt_pop (pv 1)) pe_int (fun _ _ => rfl)) rfl)
    (pss_one (ps_ret pe_bl)))))))), ?_⟩
    refine q_start hd ?_
    have npa : p ≠ a := ob.neL hl
    rw [rev_cons_map] at hl
    refine q_asgGM (m_pop hl (e_var rfl)) fun H1 d1 t1 ⟨hd1, f1, hl1⟩ => ?_
    subst hd1
    refine ⟨_, ((gw_tup (gl_cons (gw_name (by decide)) (gl_cons (gw_name (by decide)) (gl_cons (gw_name (by decide)) gl_nil))) rfl) : GsW _ [3, 4, 5] _ _ _ _).gs, ?_⟩
    have ob1 := ob.fr f1 (by simpa using npa)
    refine q_when (t_test (e_lt (e_add (e_fld 1 ob1 T.clS T.nS_first ndS rfl rfl (e_var rfl)) (e_var rfl)) e_int)) (fun hb H2 e2 => ?_) (fun hb H2 e2 => ?_)
    · refine s_ret e_bl fun H3 v e3 hv => ?_
      cases hv.b_inv
      exact k1 (of_decide_eq_true hb) H3 ((f1.sub sub2).trans (Fr.of (e2.trans e3)))
    · refine q_app (hl1.mono e2) (by rw [List.length_map, List.length_reverse]; exact lt100000 (by omega)) (e_var rfl) (e_tup (a_cons e_int (a_cons (e_var rfl) (a_cons (e_sub (e_var rfl) e_int) a_nil))) (by show 3 ≤ sizeLine; decide)) fun H3 f3 hl3 => ?_
      have hl3' : LsD H3 a ((Itm.b wd (e - 1) :: rest).reverse.map itmD) := by rw [rev_cons_map]; exact hl3
      have ob3 := (ob1.mono e2).fr f3 (by simpa using npa)
      refine q_asg (d := wD (if mv = -1 then wd else wd.reverse)) (e_if (t_test (e_eqI (e_var rfl) (e_neg e_int))) (fun hb2 => (e_var rfl : Ev (tVar 4) _ _ (wD wd)).is (by rw [if_pos (of_decide_eq_true hb2)])) fun hb2 => (e_revT (e_var rfl)).is (by rw [if_neg (of_decide_eq_false hb2), ← List.map_reverse])) fun H4 e4 => ?_
      generalize hsy : (if mv = -1 then wd else wd.reverse) = sy
      have hsl : sy.length = wd.length := by
        rw [← hsy]
        split
        · rfl
        · exact List.length_reverse
      have hsp : splitA wd e mv rest = sy.reverse.map Itm.s ++ .b wd (e - 1) :: rest := by
        unfold splitA
        rw [← hsy]
        split
        · rfl
        · rw [List.reverse_reverse]
      refine q_forT (ds := sy.map D.i) (e_var rfl) fun H5 e5 => ⟨fun j g' H' => ∃ o7 : Option D, g' = [some (.r p), some (.r a), some (.i mv), some (.i 0), some (wD wd), some (.i e), some (wD sy), o7] ∧ Fr [a] H5 H' ∧ LsD H' a (((sy.take j).reverse.map Itm.s ++ .b wd (e - 1) :: rest).reverse.map itmD),
        ⟨_, rfl, Fr.refl, (hl3'.mono e4).mono e5⟩, fun j g' H' ⟨_, _, e, _⟩ => e.tp, ?_, ?_⟩
      · rintro j x g' H' hx ⟨o7, rfl, f6, hl6⟩
        obtain ⟨y, hy, rfl⟩ := getElem?_map_inv hx
        refine ⟨_, g_name, ?_⟩
        refine s_app hl6 (by
          rw [List.length_map, List.length_reverse, List.length_append, List.length_cons, List.length_map, List.length_reverse, List.length_take]
          exact lt100000 (by omega)) (e_var rfl) (e_tup (a_cons (e_var rfl) (a_cons e_non (a_cons e_int a_nil))) (by show 3 ≤ sizeLine; decide)) fun H7 f7 hl7 => n_lp ⟨_, rfl, f6.trans f7, ?_⟩
        have : ((sy.take (j + 1)).reverse.map Itm.s ++ .b wd (e - 1) :: rest) = Itm.s y :: ((sy.take j).reverse.map Itm.s ++ .b wd (e - 1) :: rest) := by
          rw [take_succ hy]; simp
        rw [this, rev_cons_map]
        exact hl7
      · rintro g' H' ⟨o7, rfl, f6, hl6⟩
        rw [List.length_map, List.take_length, ← hsp] at hl6
        obtain ⟨y, t, hyt, _, _⟩ := splitA_cons (e := e) (move := mv) (r := rest) w1
        rw [hyt, rev_cons_map] at hl6
        have ob6 := ((ob3.mono e4).mono e5).fr f6 (by simpa using npa)
        refine q_fldS (p := p) 3 T.clS T.nS_symbol ndS rfl (by decide) (m_ixC (m_pop hl6 (e_var rfl)) (atI_get (k := 0) rfl)) fun H7 d7 t7 ⟨hd7, f7, hl7⟩ => ?_
        subst hd7
        refine ⟨_, ob6.fr f7 (by simpa using npa), by simp [syDs], e_var rfl, fun H8 f8 ob8 => ?_⟩
        refine s_ret e_bl fun H9 v e9 hv => ?_
        cases hv.b_inv
        have fr : Fr [p, a] H H9 := (((((f1.sub sub2).trans (Fr.of e2)).trans (f3.sub sub2)).trans (Fr.of (e4.trans e5))).trans ((f6.trans f7).sub sub2)).trans ((f8.sub sub1).trans (Fr.of e9))
        exact k2 (of_decide_eq_false hb) H9 y t hyt fr (ob8.mono e9) ((hl7.fr f8 (by simpa using npa.symm)).mono e9)
end
end Tac

namespace Tac
open PySem PySem.Spec PyProof.Rows L2
section
variable {P : Program} {w : World} {K : PySem.W.Frag} {mg : Str → Option Value} {base : Heap} {CR CS CF : Addr}

/-! ### Symbolic.move -/
abbrev sSMove : Stmt := inClass (top 17) 3
theorem sc_smove : FnScope ["self", "write", "move", "state", "ahead", "behind", "symbol", "word", "more", "after"] ["self"] (defScope sSMove) := ⟨rfl, rfl, rfl, by decide +kernel, rfl, by decide +kernel, by decide +kernel⟩
def spSMove (CS : Addr) : Sp := fun vs H Q _ => ∃ (p l r : Addr) (m : Mach) (B : Nat) (first : Int) (n : Nat) (s : Sy), DTs H vs [.r p] ∧ SyAt H p l r CS m first s ∧ MachOk m B ∧ SyOk m B first n s ∧ n ≤ 40000 ∧
  (moveS m first s = none → ∀ H', Fr [p, l, r] H H' → Q (.bl false) H') ∧ (∀ s2, moveS m first s = some s2 → ∀ H', Fr [p, l, r] H H' → SyAt H' p l r CS m first s2 → Q (.bl true) H')
theorem ok_smove {f : Addr} {fd : FuncData} (F : Fun K "move" "Symbolic.move" sSMove f fd) (T : Tx K mg CR CS CF) (c_Symbolic_crossed : MCal P w K mg base CS "crossed" 1 ["self", "word", "move"] (spSCross CS)) (c_Symbolic_split : MCal P w K mg base CS "split" 1 ["self", "ahead", "move"] (spSSplit CS)) : FnOk P w K mg base CX0 2 f fd ["self"] (spSMove CS) := by
  refine F.ok sc_smove (fun vs H Q E h => ?_) (fun cdv A outer s H vs Q E hr h => ?_)
  · obtain ⟨_, _, _, _, _, _, _, _, hd, _⟩ := h
    exact hd.length
  · obtain ⟨p, l, r, m, B, first, n, s, hd, at_, mo, ok, hn, k1, k2⟩ := h
    have sc := sc_smove
    refine ⟨_, (pss_cons (ps_asg (pe_ix ix_tup (pe_ix ix_tup (pe_fld (pv 0) rfl) (pe_fld (pv 0) rfl) (fun _ _ => rfl)) (pe_fld (pv 0) rfl) (fun _ _ => rfl)) (pg_tup rfl (pgs_cons (pg_name (i := 1) sc.nd rfl (Or.inl rfl)) (pgs_cons (pg_name (i := 2) sc.nd rfl (Or.inl rfl)) (pgs_cons (pg_name (i := 3) sc.nd rfl (Or.inl rfl)) pgs_nil)))))
    (pss_cons (ps_if (pt_cmpR op_eq (pv 3) (pe_const T.STOP rfl) (nomark _))
      (pss_one (ps_ret pe_bl))
      pss_nil)
    (pss_cons (ps_asg (pe_ifExp (pt_cmpR op_eq (pv 2) pe_int (nomark _)) (pe_tup (pa_cons (pe_fld (pv 0) rfl) (pa_cons (pe_fld (pv 0) rfl) pa_nil))) (pe_tup (pa_cons (pe_fld (pv 0) rfl) (pa_cons (pe_fld (pv 0) rfl) pa_nil)))) (pg_tup rfl (pgs_cons (pg_name (i := 4) sc.nd rfl (Or.inl rfl)) (pgs_cons (pg_name (i := 5) sc.nd rfl (Or.inl rfl)) pgs_nil))))
    (pss_cons (ps_expr (pe_bm PySem.F.plainAttrs_list PySem.F.slot_list_append PySem.F.type_list_append mt_append (pv 5) (pa_cons (pe_tup (pa_cons (pv 1) (pa_cons pe_non (pa_cons pe_int pa_nil)))) pa_nil)))
    (pss_cons (ps_fld (pv 0) (pv 3) rfl)
    (pss_cons (ps_while PassesOwn.never (pt_truth (pv 4) (by intro _; rfl))
      (pss_cons (ps_asg (pe_ix ix_list (pv 4) (pe_un un_neg pe_int) (fun _ _ => rfl)) (pg_tup rfl (pgs_cons (pg_name (i := 6) sc.nd rfl (Or.inl rfl)) (pgs_cons (pg_name (i := 7) sc.nd rfl (Or.inl rfl)) (pgs_cons (pg_name (i := 8) sc.nd rfl (Or.inl rfl)) pgs_nil)))))
      (pss_cons (ps_if (pt_cmpR op_isN (pv 7) pe_non (nomark _))
        (pss_cons (ps_expr (pe_bm0 PySem.F.plainAttrs_list PySem.F.slot_list_pop PySem.F.type_list_pop mt_pop (pv 4)))
        (pss_cons (ps_fld (pv 0) (pv 6) rfl)
        (pss_one (ps_ret pe_bl))))
        pss_nil)
      (pss_cons (ps_set (i := 9) sc.nd rfl (Or.inl rfl) (pe_methX (pv 0) T.clS c_Symbolic_crossed (hr.mono (by decide)) (pa_cons (pv 7) (pa_cons (pv 2) pa_nil))))
      (pss_cons (ps_if (pt_cmpR op_isN (pv 9) pe_non (nomark _))
        (pss_one (ps_ret (pe_methX (pv 0) T.clS c_Symbolic_split (hr.mono (by decide)) (pa_cons (pv 4) (pa_cons (pv 2) pa_nil)))))
        pss_nil)
      (pss_cons (ps_expr (pe_bm0 PySem.F.plainAttrs_list PySem.F.slot_list_pop PySem.F.type_list_pop mt_pop (pv 4)))
      (pss_one (ps_expr (pe_bm PySem.F.plainAttrs_list PySem.F.slot_list_append PySem.F.type_list_append mt_append (pv 5) (pa_cons (pe_tup (pa_cons pe_int (pa_cons (pv 9) (pa_cons (pv 8) pa_nil)))) pa_nil))))))))))
    (pss_cons (ps_fld (pv 0) pe_int rfl)
    (pss_one (ps_ret pe_bl))))))))), ?_⟩
    refine q_start hd ?_
    obtain ⟨row, q1, q2⟩ := row_at mo ⟨ok.st0, ok.st1⟩ ok.sy
    obtain ⟨_, _, _, _, r1, r2, r3, r4, r5⟩ := ruleOf_at mo ⟨ok.st0, ok.st1⟩ ok.sy
    have ob := at_.ob
    have hmv : moveS m first s = (let u := ruleOf m s.st s.sym
      if u.2.2 = -1 then none
      else if u.2.1 = 1 then
        match goA m u.2.2 u.2.1 first s.right (.s u.1 :: s.left) with
        | some (x, r, l) => some ⟨u.2.2, x, l, r⟩
        | none => none
      else
        match goA m u.2.2 u.2.1 first s.left (.s u.1 :: s.right) with
        | some (x, l, r) => some ⟨u.2.2, x, l, r⟩
        | none => none) := rfl
    generalize ruleOf m s.st s.sym = u at *
    obtain ⟨uw, um, us⟩ := u
    have r3 : um = 1 ∨ um = -1 := r3
    have r4 : -1 ≤ us := r4
    have r5 : us < m.length := r5
    have r1 : 0 ≤ uw := r1
    have r2 : uw < B := r2
    refine q_asgG (e_ixT q2 (e_ixT (d := rowD row) q1 (e_fld 0 ob T.clS T.nS_machine ndS rfl rfl (e_var rfl)) (e_fld 2 ob T.clS T.nS_state ndS rfl rfl (e_var rfl))) (e_fld 3 ob T.clS T.nS_symbol ndS rfl rfl (e_var rfl))) (fun H1 => ((gw_tup (gl_cons (gw_name (by decide)) (gl_cons (gw_name (by decide)) (gl_cons (gw_name (by decide)) gl_nil))) rfl) : GsW _ [1, 2, 3] _ _ _ _).gs) fun H1 e1 => ?_
    refine q_when (t_test (e_eqI (e_var rfl) e_int)) (fun hb H2 e2 => ?_) (fun hb H2 e2 => ?_)
    · refine s_ret e_bl fun H3 v e3 hv => ?_
      cases hv.b_inv
      refine k1 ?_ H3 (Fr.of ((e1.trans e2).trans e3))
      rw [hmv]
      exact if_pos (of_decide_eq_true hb)
    · have hns : us ≠ -1 := of_decide_eq_false hb
      obtain ⟨Aa, Bb, a, b, hAB⟩ : ∃ (Aa Bb : Addr) (a b : List Itm), (um = 1 ∧ Aa = r ∧ Bb = l ∧ a = s.right ∧ b = s.left) ∨ (um = -1 ∧ Aa = l ∧ Bb = r ∧ a = s.left ∧ b = s.right) := by
        rcases r3 with z | z
        · exact ⟨_, _, _, _, .inl ⟨z, rfl, rfl, rfl, rfl⟩⟩
        · exact ⟨_, _, _, _, .inr ⟨z, rfl, rfl, rfl, rfl⟩⟩
      have hA : LsD H Aa (a.reverse.map itmD) := by
        rcases hAB with ⟨_, z1, z2, z3, z4⟩ | ⟨_, z1, z2, z3, z4⟩
        · rw [z1, z3]; exact at_.lsr
        · rw [z1, z3]; exact at_.lsl
      have hB : LsD H Bb (b.reverse.map itmD) := by
        rcases hAB with ⟨_, z1, z2, z3, z4⟩ | ⟨_, z1, z2, z3, z4⟩
        · rw [z2, z4]; exact at_.lsl
        · rw [z2, z4]; exact at_.lsr
      have hne : Aa ≠ Bb := by
        rcases hAB with ⟨_, z1, z2, z3, z4⟩ | ⟨_, z1, z2, z3, z4⟩
        · rw [z1, z2]; exact at_.ne.symm
        · rw [z1, z2]; exact at_.ne
      have npA : p ≠ Aa := ob.neL hA
      have npB : p ≠ Bb := ob.neL hB
      have hsub : ∀ c, c ∈ [p, Aa, Bb] → c ∈ [p, l, r] := fun c hc => by
        rcases hAB with ⟨_, z1, z2, z3, z4⟩ | ⟨_, z1, z2, z3, z4⟩
        · rw [z1, z2] at hc; simp at hc ⊢; rcases hc with z | z | z <;> simp [z]
        · rw [z1, z2] at hc; simp at hc ⊢; rcases hc with z | z | z <;> simp [z]
      have sA : ∀ c, c ∈ [Aa] → c ∈ [p, l, r] := fun c hc => hsub c (by simp at hc; simp [hc])
      have sB : ∀ c, c ∈ [Bb] → c ∈ [p, l, r] := fun c hc => hsub c (by simp at hc; simp [hc])
      have sP : ∀ c, c ∈ [p] → c ∈ [p, l, r] := fun c hc => hsub c (by simp at hc; simp [hc])
      have sPA : ∀ c, c ∈ [p, Aa] → c ∈ [p, l, r] := fun c hc => hsub c (by simp at hc; rcases hc with z | z <;> simp [z])
      have hok : ∀ i ∈ a, ItmOk B first i := by
        rcases hAB with ⟨_, z1, z2, z3, z4⟩ | ⟨_, z1, z2, z3, z4⟩
        · rw [z3]; exact ok.r
        · rw [z3]; exact ok.l
      have hlen : a.length + b.length ≤ n := by
        have := ok.n
        rcases hAB with ⟨_, z1, z2, z3, z4⟩ | ⟨_, z1, z2, z3, z4⟩
        · rw [z3, z4]; omega
        · rw [z3, z4]; omega
      have fin0 : goA m us um first a (.s uw :: b) = none → ∀ H', Fr [p, l, r] H H' → Q (.bl false) H' := fun hg => k1 (by
        rw [hmv]
        show (if us = -1 then none else if um = 1 then _ else _) = none
        rw [if_neg hns]
        rcases hAB with ⟨z, z1, z2, z3, z4⟩ | ⟨z, z1, z2, z3, z4⟩
        · rw [if_pos z, ← z3, ← z4]
          show (match goA m us um first a (.s uw :: b) with | some (x, r, l) => some (⟨us, x, l, r⟩ : Sy) | none => none) = none
          rw [hg]
        · rw [if_neg (by omega), ← z3, ← z4]
          show (match goA m us um first a (.s uw :: b) with | some (x, l, r) => some (⟨us, x, l, r⟩ : Sy) | none => none) = none
          rw [hg])
      have fin1 : ∀ x r2 b2, goA m us um first a (.s uw :: b) = some (x, r2, b2) → ∀ H', Fr [p, l, r] H H' → Ob NS H' p CS (syDs m first us x l r) → LsD H' Aa (r2.reverse.map itmD) → LsD H' Bb (b2.reverse.map itmD) → Q (.bl true) H' := fun x r2 b2 hg H' fr ob' hA' hB' => by
        rcases hAB with ⟨z, z1, z2, z3, z4⟩ | ⟨z, z1, z2, z3, z4⟩
        · refine k2 ⟨us, x, b2, r2⟩ ?_ H' fr ⟨ob', by rw [← z2]; exact hB', by rw [← z1]; exact hA', at_.ne⟩
          rw [hmv]
          show (if us = -1 then none else if um = 1 then _ else _) = _
          rw [if_neg hns, if_pos z, ← z3, ← z4]
          show (match goA m us um first a (.s uw :: b) with | some (x, r, l) => some (⟨us, x, l, r⟩ : Sy) | none => none) = _
          rw [hg]
        · refine k2 ⟨us, x, r2, b2⟩ ?_ H' fr ⟨ob', by rw [← z1]; exact hA', by rw [← z2]; exact hB', at_.ne⟩
          rw [hmv]
          show (if us = -1 then none else if um = 1 then _ else _) = _
          rw [if_neg hns, if_neg (by omega), ← z3, ← z4]
          show (match goA m us um first a (.s uw :: b) with | some (x, l, r) => some (⟨us, x, l, r⟩ : Sy) | none => none) = _
          rw [hg]
      have e12 := e1.trans e2
      have ob2 := ob.mono e12
      refine q_asgG (d := .t [.r Aa, .r Bb]) (e_if (t_test (e_eqI (e_var rfl) e_int))
        (fun hb => (e_tup (a_cons (e_fld 5 ob2 T.clS T.nS_right ndS rfl rfl (e_var rfl)) (a_cons (e_fld 4 ob2 T.clS T.nS_left ndS rfl rfl (e_var rfl)) a_nil)) (by show 2 ≤ sizeLine; decide)).is (by
          have hb : um = 1 := of_decide_eq_true hb
          rcases hAB with ⟨z, z1, z2, z3, z4⟩ | ⟨z, z1, z2, z3, z4⟩
          · rw [z1, z2]
          · omega))
        (fun hb => (e_tup (a_cons (e_fld 4 ob2 T.clS T.nS_left ndS rfl rfl (e_var rfl)) (a_cons (e_fld 5 ob2 T.clS T.nS_right ndS rfl rfl (e_var rfl)) a_nil)) (by show 2 ≤ sizeLine; decide)).is (by
          have hb : ¬ um = 1 := of_decide_eq_false hb
          rcases hAB with ⟨z, z1, z2, z3, z4⟩ | ⟨z, z1, z2, z3, z4⟩
          · omega
          · rw [z1, z2]))) (fun H1 => ((gw_tup (gl_cons (gw_name (by decide)) (gl_cons (gw_name (by decide)) gl_nil)) rfl) : GsW _ [4, 5] _ _ _ _).gs) fun H3 e3 => ?_
      have e13 := e12.trans e3
      refine q_app (hB.mono e13) (by rw [List.length_map, List.length_reverse]; exact lt100000 (by omega)) (e_var rfl) (e_tup (a_cons (e_var rfl) (a_cons e_non (a_cons e_int a_nil))) (by show 3 ≤ sizeLine; decide)) fun H4 f4 hB4 => ?_
      have hB4' : LsD H4 Bb ((Itm.s uw :: b).reverse.map itmD) := by rw [rev_cons_map]; exact hB4
      have ob4 := (ob.mono e13).fr f4 (by simpa using npB)
      refine q_fld 2 T.clS T.nS_state ndS rfl (by decide) ob4 (by simp [syDs]) (e_var rfl) (e_var rfl) fun H5 f5 ob5 => ?_
      have ob5 : Ob NS H5 p CS (syDs m first us s.sym l r) := ob5
      have hA5 := ((hA.mono e13).fr f4 (by simpa using hne)).fr f5 (by simpa using npA.symm)
      have hB5 := hB4'.fr f5 (by simpa using npB.symm)
      have f05 : Fr [p, l, r] H H5 := ((Fr.of e13).trans (f4.sub sB)).trans (f5.sub sP)
      refine q_while (fun mm g' H' => ∃ (o6 o7 o8 o9 : Option D) (a' b' : List Itm), mm = a'.length ∧ g' = [some (.r p), some (.i uw), some (.i um), some (.i us), some (.r Aa), some (.r Bb), o6, o7, o8, o9] ∧ Fr [p, l, r] H H' ∧ Ob NS H' p CS (syDs m first us s.sym l r) ∧ LsD H' Aa (a'.reverse.map itmD) ∧ LsD H' Bb (b'.reverse.map itmD) ∧
        goA m us um first a (.s uw :: b) = goA m us um first a' b' ∧ (∀ i ∈ a', ItmOk B first i) ∧ a'.length + b'.length ≤ n + 1) a.length ⟨_, _, _, _, a, .s uw :: b, rfl, rfl, f05, ob5, hA5, hB5, rfl, hok, by rw [List.length_cons]; omega⟩ ?_
      rintro mm g' H' ⟨o6, o7, o8, o9, a', b', rfl, rfl, f6, ob6, hA6, hB6, hg, hok', hlen'⟩
      refine ⟨_, (t_truL hA6 (e_var rfl)), fun hb2 H7 e7 => ?_, fun hb2 H7 e7 => ?_⟩
      · cases a' with
        | nil => simp at hb2
        | cons i a2 =>
          have hA7 := hA6.mono e7
          have ob7 := ob6.mono e7
          have hA7' := hA7
          rw [rev_cons_map] at hA7'
          have hlast : atI ((i :: a2).reverse.map itmD) (-1) = some (itmD i) := by
            rw [rev_cons_map]
            refine atI_lastI ?_
            simp
          have hok2 : ∀ i ∈ a2, ItmOk B first i := fun j hj => hok' j (List.mem_cons_of_mem _ hj)
          rw [List.length_cons] at hlen'
          cases i with
          | s y =>
            refine q_asgG (e_ixL hA7 hlast (e_var rfl) (e_neg e_int)) (fun H1 => ((gw_tup (gl_cons (gw_name (by decide)) (gl_cons (gw_name (by decide)) (gl_cons (gw_name (by decide)) gl_nil))) rfl) : GsW _ [6, 7, 8] _ _ _ _).gs) fun H8 e8 => ?_
            refine q_when (t_test (e_isN (e_var rfl))) (fun hb3 H9 e9 => ?_) (fun hb3 H9 e9 => nomatch hb3)
            refine q_dropM (m_pop ((hA7'.mono e8).mono e9) (e_var rfl)) fun Ha da ta ⟨_, fa, hAa⟩ => ?_
            have e79 := (e7.trans e8).trans e9
            refine q_fld 3 T.clS T.nS_symbol ndS rfl (by decide) ((ob6.mono e79).fr fa (by simpa using npA)) (by simp [syDs]) (e_var rfl) (e_var rfl) fun Hb fb obb => ?_
            refine s_ret e_bl fun Hc v ec hv => ?_
            cases hv.b_inv
            refine fin1 y a2 b' (by rw [hg]; rfl) Hc (((f6.trans (Fr.of e79)).trans (fa.sub sA)).trans ((fb.sub sP).trans (Fr.of ec))) (obb.mono ec) ((hAa.fr fb (by simpa using npA.symm)).mono ec) ((((hB6.mono e79).fr fa (by simpa using hne.symm)).fr fb (by simpa using npB.symm)).mono ec)
          | b wd e =>
            have hwok := hok' (.b wd e) List.mem_cons_self
            obtain ⟨w1, w24, wb, e0, e1'⟩ : 1 ≤ wd.length ∧ wd.length ≤ 24 ∧ InB B wd ∧ -first ≤ e ∧ e ≤ 0 := by
              cases hwok with
              | b h1 h2 h3 h4 h5 => exact ⟨h1, h2, h3, h4, h5⟩
            refine q_asgG (e_ixL hA7 hlast (e_var rfl) (e_neg e_int)) (fun H1 => ((gw_tup (gl_cons (gw_name (by decide)) (gl_cons (gw_name (by decide)) (gl_cons (gw_name (by decide)) gl_nil))) rfl) : GsW _ [6, 7, 8] _ _ _ _).gs) fun H8 e8 => ?_
            refine q_when (t_test (e_isN (e_var rfl))) (fun hb3 H9 e9 => nomatch hb3) (fun hb3 H9 e9 => ?_)
            have e79 := (e7.trans e8).trans e9
            have ob9 := ob6.mono e79
            have hg' : goA m us um first (.b wd e :: a2) b' = (match crossed m us wd um with
              | some w2 => goA m us um first a2 (.b w2 e :: b')
              | none => if first + e < 1 then none else match splitA wd e um a2 with
                | y :: r2 => some (y.sym, r2, b')
                | [] => none) := rfl
            rw [hg'] at hg
            have cr : Ev (tMeth CS "crossed" (spSCross CS) [] E0 (tVar 0) (tCons (tVar 7) (tCons (tVar 2) tNil))) [some (.r p), some (.i uw), some (.i um), some (.i us), some (.r Aa), some (.r Bb), some (.i 0), some (wD wd), some (.i e), o9] H9 (optD (crossed m us wd um)) :=
              e_meth ob9 (by decide +kernel) (e_var rfl) (a_cons (e_var rfl) (a_cons (e_var rfl) a_nil)) fun H1 vs e1 hvs Q2 q => ⟨p, m, B, first, us, s.sym, l, r, wd, um, hvs, ob9.mono e1, mo, ⟨by omega, r5⟩, ⟨w1, by omega⟩, wb, fun H2 v e2 hv => q H2 v e2 hv⟩
            cases hc : crossed m us wd um with
            | none =>
              rw [hc] at hg cr
              simp only [] at hg
              refine q_asg (d := .n) cr fun Ha ea => ?_
              refine q_when (t_test (e_isN (e_var rfl))) (fun hb4 Hb eb => ?_) (fun hb4 Hb eb => nomatch hb4)
              have eab := ea.trans eb
              have obb := ob9.mono eab
              have hAb := ((hA7.mono e8).mono e9).mono eab
              by_cases hlt : first + e < 1
              · rw [if_pos hlt] at hg
                refine s_retM (m_meth (R := fun d' H2 => d' = .b false ∧ Fr [p, Aa] Hb H2) obb (by decide +kernel) (e_var rfl) (a_cons (e_var rfl) (a_cons (e_var rfl) a_nil)) fun H1 vs e1 hvs Q2 q => ⟨p, Aa, m, first, us, s.sym, l, r, wd, e, um, a2, hvs, obb.mono e1, hAb.mono e1, ⟨w1, by omega⟩, by omega, fun _ H2 f2 => q H2 _ _ f2.tp .b ⟨rfl, (Fr.of e1).trans f2⟩, fun z => absurd hlt z⟩) fun Hc v d tc hv ⟨hd, fc⟩ => ?_
                subst hd
                cases hv.b_inv
                exact fin0 hg Hc ((f6.trans (Fr.of (e79.trans eab))).trans (fc.sub sPA))
              · rw [if_neg hlt] at hg
                refine s_retM (m_meth (R := fun d' H2 => d' = .b true ∧ Fr [p, Aa] Hb H2 ∧ ∃ y r2, splitA wd e um a2 = .s y :: r2 ∧ Ob NS H2 p CS (syDs m first us y l r) ∧ LsD H2 Aa (r2.reverse.map itmD)) obb (by decide +kernel) (e_var rfl) (a_cons (e_var rfl) (a_cons (e_var rfl) a_nil)) fun H1 vs e1 hvs Q2 q => ⟨p, Aa, m, first, us, s.sym, l, r, wd, e, um, a2, hvs, obb.mono e1, hAb.mono e1, ⟨w1, by omega⟩, by omega, fun z => absurd z hlt, fun _ H2 y r2 hy f2 ob2 hl2 => q H2 _ _ f2.tp .b ⟨rfl, (Fr.of e1).trans f2, y, r2, hy, ob2, hl2⟩⟩) fun Hc v d tc hv ⟨hd, fc, y, r2, hy, obc, hAc⟩ => ?_
                subst hd
                cases hv.b_inv
                rw [hy] at hg
                exact fin1 y r2 b' hg Hc ((f6.trans (Fr.of (e79.trans eab))).trans (fc.sub sPA)) obc hAc (((hB6.mono e79).mono eab).fr fc (by simpa using ⟨npB.symm, hne.symm⟩))
            | some w2 =>
              rw [hc] at hg cr
              simp only [] at hg
              refine q_asg (d := wD w2) cr fun Ha ea => ?_
              refine q_when (t_test (e_isN (e_var rfl))) (fun hb4 Hb eb => nomatch hb4) (fun hb4 Hb eb => ?_)
              have eab := ea.trans eb
              refine q_dropM (m_pop (((hA7'.mono e8).mono e9).mono eab) (e_var rfl)) fun Hc dc tc ⟨_, fc, hAc⟩ => ?_
              have hBc := ((hB6.mono e79).mono eab).fr fc (by simpa using hne.symm)
              refine s_app hBc (by rw [List.length_map, List.length_reverse]; exact lt100000 (by omega)) (e_var rfl) (e_tup (a_cons e_int (a_cons (e_var rfl) (a_cons (e_var rfl) a_nil))) (by show 3 ≤ sizeLine; decide)) fun Hd fd hBd => n_lp ⟨a2.length, by simp, _, _, _, _, a2, .b w2 e :: b', rfl, rfl, ?_, ?_, ?_, ?_, hg, hok2, ?_⟩
              · exact ((f6.trans (Fr.of (e79.trans eab))).trans (fc.sub sA)).trans (fd.sub sB)
              · exact ((ob9.mono eab).fr fc (by simpa using npA)).fr fd (by simpa using npB)
              · exact hAc.fr fd (by simpa using hne)
              · rw [rev_cons_map]; exact hBd
              · rw [List.length_cons]; omega
      · cases a' with
        | cons i a2 => simp at hb2
        | nil =>
          refine q_fld 3 T.clS T.nS_symbol ndS rfl (by decide) (ob6.mono e7) (by simp [syDs]) e_int (e_var rfl) fun H8 f8 ob8 => ?_
          refine s_ret e_bl fun H9 v e9 hv => ?_
          cases hv.b_inv
          exact fin1 0 [] b' (by rw [hg]; rfl) H9 ((f6.trans (Fr.of e7)).trans ((f8.sub sP).trans (Fr.of e9))) (ob8.mono e9) (((hA6.mono e7).fr f8 (by simpa using npA.symm)).mono e9) (((hB6.mono e7).fr f8 (by simpa using npB.symm)).mono e9)
end
end Tac

namespace Tac
open PySem PySem.Spec PyProof.Rows L2
theorem standsL_append (n : Int) : ∀ (xs ys : List Itm), standsL n (xs ++ ys) = standsL n xs ++ standsL n ys
  | [], ys => rfl
  | x :: xs, ys => by
    show x.word n ++ standsL n (xs ++ ys) = x.word n ++ standsL n xs ++ standsL n ys
    rw [standsL_append n xs ys, List.append_assoc]
theorem standsL_len {B : Nat} {first n : Int} (hn : n ≤ 30) : ∀ {xs : List Itm}, (∀ i ∈ xs, ItmOk B first i) → (standsL n xs).length ≤ xs.length + (xs.filter Itm.isB).length * 720
  | [], _ => Nat.zero_le _
  | x :: xs, h => by
    have ih := standsL_len hn (xs := xs) fun i hi => h i (List.mem_cons_of_mem _ hi)
    have hx := h x List.mem_cons_self
    show (x.word n ++ standsL n xs).length ≤ _
    rw [List.length_append, List.length_cons]
    cases x with
    | s y =>
      show 1 + _ ≤ _ + 1 + (xs.filter Itm.isB).length * 720
      omega
    | b w e =>
      cases hx with
      | b h1 h2 h3 h4 h5 =>
        have : (rep (n + e).toNat w).length ≤ 720 := by
          rw [rep_len]
          have : (n + e).toNat ≤ 30 := by omega
          exact Nat.le_trans (Nat.mul_le_mul this h2) (by decide)
        show (rep (n + e).toNat w).length + _ ≤ _ + 1 + (Itm.b w e :: xs.filter Itm.isB).length * 720
        rw [List.length_cons, Nat.succ_mul]
        omega
section
variable {P : Program} {w : World} {K : PySem.W.Frag} {mg : Str → Option Value} {base : Heap} {CR CS CF : Addr}

/-! ### Symbolic.stands_for -/
abbrev sSStand : Stmt := inClass (top 17) 4
theorem sc_sstand : FnScope ["self", "number", "found", "symbol", "word", "more"] ["self", "number"] (defScope sSStand) := ⟨rfl, rfl, rfl, by decide +kernel, rfl, by decide +kernel, by decide +kernel⟩
def spSStand (CS : Addr) : Sp := fun vs H Q _ => ∃ (p l r : Addr) (m : Mach) (B : Nat) (first : Int) (s : Sy) (n : Int), DTs H vs [.r p, .i n] ∧ SyAt H p l r CS m first s ∧ (∀ i ∈ s.left, ItmOk B first i) ∧ s.left.length ≤ 40000 ∧ (s.left.filter Itm.isB).length ≤ 2 ∧ (0 ≤ n ∧ n ≤ 30) ∧ first ≤ 20 ∧ ∀ H' v, Same H H' → DT H' v (wD (standsFor s n)) → Q v H'
theorem ok_sstand {f : Addr} {fd : FuncData} (F : Fun K "stands_for" "Symbolic.stands_for" sSStand f fd) (T : Tx K mg CR CS CF) (c_bare : Cal P w K mg base "bare" 1 ["word"] spBare) : FnOk P w K mg base CX0 2 f fd ["self", "number"] (spSStand CS) := by
  refine F.ok sc_sstand (fun vs H Q E h => ?_) (fun cdv A outer s H vs Q E hr h => ?_)
  · obtain ⟨_, _, _, _, _, _, _, _, hd, _⟩ := h
    exact hd.length
  · obtain ⟨p, l, r, m, B, first, s, n, hd, at_, hok, hlen, hbl, ⟨n0, n30⟩, hf20, k⟩ := h
    have sc := sc_sstand
    refine ⟨_, (pss_cons (ps_set (i := 2) sc.nd rfl (Or.inl rfl) (pe_tup pa_nil))
    (pss_cons (ps_for PassesOwn.never rfl (pi_list (pe_fld (pv 0) rfl)) (pg_tup rfl (pgs_cons (pg_name (i := 3) sc.nd rfl (Or.inl rfl)) (pgs_cons (pg_name (i := 4) sc.nd rfl (Or.inl rfl)) (pgs_cons (pg_name (i := 5) sc.nd rfl (Or.inl rfl)) pgs_nil))))
      (pss_one (ps_if (pt_cmpR op_isN (pv 4) pe_non (nomark _))
        (pss_one (ps_set (i := 2) sc.nd rfl (Or.inl rfl) (pe_op op_catA (pv 2) (pe_tup (pa_cons (pv 3) pa_nil)))))
        (pss_one (ps_set (i := 2) sc.nd rfl (Or.inl rfl) (pe_op op_catA (pv 2) (pe_op op_mulA (pv 4) (pe_op op_add (pv 1) (pv 5)))))))))
    (pss_one (ps_ret (pe_callX c_bare (hr.mono (by decide)) rfl (pa_cons (pv 2) pa_nil)))))), ?_⟩
    refine q_start hd ?_
    have hrl : ∀ j, (standsL n (s.left.reverse.take j)).length ≤ 45000 := fun j => by
      have h1 := standsL_len (B := B) (first := first) n30 (xs := s.left.reverse.take j) fun i hi => hok i (List.mem_reverse.mp (List.mem_of_mem_take hi))
      have h2 : ((s.left.reverse.take j).filter Itm.isB).length ≤ 2 := by
        have q := ((List.take_sublist j s.left.reverse).filter Itm.isB).length_le
        have q2 : (s.left.reverse.filter Itm.isB).length = (s.left.filter Itm.isB).length := by rw [List.filter_reverse, List.length_reverse]
        omega
      rw [List.length_take, List.length_reverse] at h1
      omega
    refine q_asg (d := wD []) (e_tup a_nil (by show 0 ≤ sizeLine; decide)) fun H1 e1 => ?_
    have at1 := at_.mono e1
    refine q_forL (e_fld 4 at1.ob T.clS T.nS_left ndS rfl rfl (e_var rfl)) at1.lsl fun H2 e2 => ⟨fun j g' H' => ∃ o3 o4 o5 : Option D, g' = [some (.r p), some (.i n), some (wD (standsL n (s.left.reverse.take j))), o3, o4, o5] ∧ Same H2 H', ⟨_, _, _, rfl, Same.refl _⟩, fun j g' H' ⟨_, _, _, _, e⟩ => .inl (Fr.of e), ?_, ?_⟩
    · rintro j x g' H' hx ⟨o3, o4, o5, rfl, e3⟩
      obtain ⟨i, hi, rfl⟩ := getElem?_map_inv hx
      have hacc := hrl j
      have htk : standsL n (s.left.reverse.take (j + 1)) = standsL n (s.left.reverse.take j) ++ i.word n := by
        rw [take_succ hi, standsL_append]
        show _ ++ (i.word n ++ []) = _
        rw [List.append_nil]
      have hiok := hok i (List.mem_reverse.mp (List.mem_of_getElem? hi))
      cases i with
      | s y =>
        refine ⟨_, ((gw_tup (gl_cons (gw_name (by decide)) (gl_cons (gw_name (by decide)) (gl_cons (gw_name (by decide)) gl_nil))) rfl) : GsW _ [3, 4, 5] _ _ _ _).gs, ?_⟩
        refine s_if (t_test (e_isN (e_var rfl))) (fun hb H5 e5 => ?_) (fun hb H5 e5 => nomatch hb)
        refine s_asg (e_catW (ys := [y]) (by rw [sizeLine_eq]; show _ + 1 ≤ _; omega) (e_var rfl) (e_tup (a_cons (e_var rfl) a_nil) (by show 1 ≤ sizeLine; decide))) fun H6 e6 => n_lp ⟨some (.i y), some .n, some (.i 0), by rw [htk]; rfl, (e3.trans e5).trans e6⟩
      | b wd e =>
        obtain ⟨w1, w24, wb, e0, e1'⟩ : 1 ≤ wd.length ∧ wd.length ≤ 24 ∧ InB B wd ∧ -first ≤ e ∧ e ≤ 0 := by
          cases hiok with
          | b h1 h2 h3 h4 h5 => exact ⟨h1, h2, h3, h4, h5⟩
        refine ⟨_, ((gw_tup (gl_cons (gw_name (by decide)) (gl_cons (gw_name (by decide)) (gl_cons (gw_name (by decide)) gl_nil))) rfl) : GsW _ [3, 4, 5] _ _ _ _).gs, ?_⟩
        refine s_if (t_test (e_isN (e_var rfl))) (fun hb H5 e5 => nomatch hb) (fun hb H5 e5 => ?_)
        have hrep : (rep (n + e).toNat wd).length ≤ 720 := by
          rw [rep_len]
          have : (n + e).toNat ≤ 30 := by omega
          exact Nat.le_trans (Nat.mul_le_mul this w24) (by decide)
        refine s_asg (e_catW (by rw [sizeLine_eq]; omega) (e_var rfl) (e_repW ⟨by omega, by omega, by omega⟩ (e_var rfl) (e_add (e_var rfl) (e_var rfl)))) fun H6 e6 => n_lp ⟨some (.i 0), some (wD wd), some (.i e), by rw [htk]; rfl, (e3.trans e5).trans e6⟩
    · rintro g' H' ⟨o3, o4, o5, rfl, e3⟩
      rw [List.length_map, List.take_length]
      refine s_ret (e_call (d := wD (standsFor s n)) (a_cons (e_var rfl) a_nil) fun H4 vs e4 hvs Q2 q => ⟨_, hvs, fun H5 v e5 hv => q H5 v e5 hv⟩) fun H4 v e4 hv => k H4 v (((e1.trans e2).trans e3).trans e4) hv

/-! ### Symbolic.returns -/
abbrev sSRet : Stmt := inClass (top 17) 5
theorem sc_sret : FnScope ["self", "shape", "blocks", "greater", "number", "symbol", "word", "_"] ["self", "shape"] (defScope sSRet) := ⟨rfl, rfl, rfl, by decide +kernel, rfl, by decide +kernel, by decide +kernel⟩
def spSRet (CS : Addr) : Sp := fun vs H Q _ => ∃ (p l r : Addr) (m : Mach) (B S n : Nat) (sh : Shp) (s : Sy), DTs H vs [.r p, shD sh] ∧ SyAt H p l r CS m sh.first s ∧ SyOk m B sh.first n s ∧ n ≤ 40000 ∧ ShpOk sh S B ∧ ∀ H', Same H H' → Q (.bl (returnsS sh s)) H'
theorem ok_sret {f : Addr} {fd : FuncData} (F : Fun K "returns" "Symbolic.returns" sSRet f fd) (T : Tx K mg CR CS CF) (c_Symbolic_stands_for : MCal P w K mg base CS "stands_for" 2 ["self", "number"] (spSStand CS)) (c_bare : Cal P w K mg base "bare" 1 ["word"] spBare) (c_tape_of : Cal P w K mg base "tape_of" 1 ["shape", "number"] spTape) : FnOk P w K mg base CX0 3 f fd ["self", "shape"] (spSRet CS) := by
  refine F.ok sc_sret (fun vs H Q E h => ?_) (fun cdv A outer s H vs Q E hr h => ?_)
  · obtain ⟨_, _, _, _, _, _, _, _, _, hd, _⟩ := h
    exact hd.length
  · obtain ⟨p, l, r, m, B, S, n, sh, s, hd, at_, ok, hn, sok, k⟩ := h
    have sc := sc_sret
    refine ⟨_, (pss_cons (ps_if (PW.pt (pw_or (pt_cmpR op_ne (pe_fld (pv 0) rfl) (pe_ix ix_tup (pv 1) pe_int (fun _ _ => rfl)) (nomark _)) (pw_or1 (pt_cmpR op_ne (pe_fld (pv 0) rfl) pe_int (nomark _)))))
      (pss_one (ps_ret pe_bl))
      pss_nil)
    (pss_cons (ps_if (pt_val (pe_callB (cr_any rfl) rfl T.any (by decide +kernel) (pa_cons (pe_lc (own := [("symbol", 5), ("word", 6), ("_", 7)]) (g := gTup K 3 (gCons (gName 5) (gCons (gName 6) (gCons (gName 7) gNil)))) (tt := tYes) rfl sc.nd (pi_list (pe_fld (pv 0) rfl)) (blkOk_by (own := [("symbol", 5), ("word", 6), ("_", 7)]) (N := ["self", "shape", "blocks", "greater", "number", "symbol", "word", "_"]) (sc := defScope sSRet) (by decide +kernel)) (fun _ _ _ _ _ => (pg_tup rfl (pgs_cons (pg_name (i := 5) sc.nd rfl (Or.inl rfl)) (pgs_cons (pg_name (i := 6) sc.nd rfl (Or.inl rfl)) (pgs_cons (pg_name (i := 7) sc.nd rfl (Or.inl rfl)) pgs_nil))))) (fun _ _ _ _ _ => pts_nil) (fun _ _ _ _ _ => (pe_or (pe_cmpR op_notN (pv 6) pe_non (nomark _)) (pe_one (pe_cmpR op_ne (pv 5) pe_int (nomark _)))))) pa_nil)))
      (pss_one (ps_ret pe_bl))
      pss_nil)
    (pss_cons (ps_set (i := 2) sc.nd rfl (Or.inl rfl) (pe_callB call_len_seq rfl T.len PySem.boot_len (pa_cons (pe_lc (own := [("_", 7), ("word", 6)]) (g := gTup K 3 (gCons (gName 7) (gCons (gName 6) (gCons (gName 7) gNil)))) rfl sc.nd (pi_list (pe_fld (pv 0) rfl)) (blkOk_by (own := [("_", 7), ("word", 6)]) (N := ["self", "shape", "blocks", "greater", "number", "symbol", "word", "_"]) (sc := defScope sSRet) (by decide +kernel)) (fun _ _ _ _ _ => (pg_tup rfl (pgs_cons (pg_name (i := 7) sc.nd rfl (Or.inl rfl)) (pgs_cons (pg_name (i := 6) sc.nd rfl (Or.inl rfl)) (pgs_cons (pg_name (i := 7) sc.nd rfl (Or.inl rfl)) pgs_nil))))) (fun _ _ _ _ _ => pts_one (pt_cmpR op_notN (pv 6) pe_non (nomark _))) (fun _ _ _ _ _ => (pv 6))) pa_nil)))
    (pss_cons (ps_if (pt_cmpR op_gt (pv 2) (pe_const T.MOST_REPEATS rfl) (nomark _))
      (pss_one (ps_ret pe_bl))
      pss_nil)
    (pss_cons (ps_set (i := 3) sc.nd rfl (Or.inl rfl) (pe_callB (call_max2 rfl) rfl T.max (by decide +kernel) (pa_cons (pv 2) (pa_cons (pe_callB call_len_seq rfl T.len PySem.boot_len (pa_cons (pe_ix ix_tup (pv 1) pe_int (fun _ _ => rfl)) pa_nil)) pa_nil))))
    (pss_cons (ps_for PassesOwn.never rfl (pi_range2 rfl T.range (pa_cons (pe_fld (pv 0) rfl) (pa_cons (pe_op op_add (pe_fld (pv 0) rfl) (pe_ix ix_list (pe_lst (pa_cons pe_int (pa_cons pe_int (pa_cons pe_int pa_nil)))) (pv 3) (fun _ _ => rfl))) pa_nil))) (pg_name (i := 4) sc.nd rfl (Or.inl rfl))
      (pss_one (ps_if (pt_cmpR (op_neD hr.units) (pe_methX (pv 0) T.clS c_Symbolic_stands_for (hr.mono (by decide)) (pa_cons (pv 4) pa_nil)) (pe_callX c_bare (hr.mono (by decide)) rfl (pa_cons (pe_callX c_tape_of (hr.mono (by decide)) rfl (pa_cons (pv 1) (pa_cons (pe_op op_add (pv 4) pe_int) pa_nil))) pa_nil)) (nomark _))
        (pss_one (ps_ret pe_bl))
        pss_nil)))
    (pss_one (ps_ret pe_bl)))))))), ?_⟩
    refine q_start hd ?_
    have ob := at_.ob
    have f1 := sok.f1
    have f20 := sok.f20
    have nlen := ok.n
    have hxs : atI [D.b sh.flip, .i sh.st, wsD sh.words, wsD sh.reps, .i sh.first] 1 = some (.i sh.st) := rfl
    have hxr : atI [D.b sh.flip, .i sh.st, wsD sh.words, wsD sh.reps, .i sh.first] 3 = some (wsD sh.reps) := rfl
    have fin : ∀ (H' : Hp) (b : Bool), returnsS sh s = b → Same H H' → Q (.bl b) H' := fun H' b hb e => by rw [← hb]; exact k H' e
    refine q_when (t_or (t_test (e_neI (e_fld 2 ob T.clS T.nS_state ndS rfl rfl (e_var rfl)) (e_ixT hxs (e_var rfl) e_int))) fun _ => (t_test (e_neI (e_fld 3 ob T.clS T.nS_symbol ndS rfl rfl (e_var rfl)) e_int))) (fun hb H1 e1 => ?_) (fun hb H1 e1 => ?_)
    · refine s_ret e_bl fun H2 v e2 hv => ?_
      cases hv.b_inv
      refine fin H2 _ ?_ (e1.trans e2)
      unfold returnsS
      rw [if_pos]
      rcases Bool.or_eq_true_iff.mp hb with z | z
      · exact .inl (by simpa using z)
      · exact .inr (by simpa using z)
    · have hc1 : ¬ (s.st ≠ sh.st ∨ s.sym ≠ 0) := by
        have q := Bool.or_eq_false_iff.mp hb
        have z1 : s.st = sh.st := by simpa using q.1
        have z2 : s.sym = 0 := by simpa using q.2
        exact fun z => z.elim (fun y => y z1) fun y => y z2
      have at1 := at_.mono e1
      refine q_when (t_B (e_any (bs := s.right.reverse.map fun i => !isZ i) ?_)) (fun hb2 H2 e2 => ?_) (fun hb2 H2 e2 => ?_)
      · have := l_lcL (K := K) (te := tFld K (tVar 0) "right") (tg := gTup K 3 (gCons (gName 5) (gCons (gName 6) (gCons (gName 7) gNil)))) (t := tYes) (tb := tOrV (tOp (fun x y H Q => y = V.non ∧ Q (.bl (!decide (x = V.non))) H) (tVar 6) (tC .non)) (tOp rNe (tVar 5) (tC (.int 0)))) (g := startG ["self", "shape", "blocks", "greater", "number", "symbol", "word", "_"] [.r p, shD sh]) (vs := [5, 6, 7]) itmD (fun _ => true) (fun i => D.b (!isZ i)) at1.lsr (e_fld 5 at1.ob T.clS T.nS_right ndS rfl rfl (e_var rfl)) (by rw [List.length_reverse]; exact lt100000 (by omega)) fun k x H2 e2 hx => by
          cases x with
          | s y => exact ⟨_, (gw_tup (gl_cons (gw_name (by decide)) (gl_cons (gw_name (by decide)) (gl_cons (gw_name (by decide)) gl_nil))) rfl), t_yes, fun _ => (e_orV (e_notN (d := .n) (e_var rfl)) fun _ => (e_neI (i := y) (e_var rfl) e_int)).is (by show D.b (false || !decide (y = 0)) = D.b (!decide (y = 0)); rw [Bool.false_or])⟩
          | b w e => exact ⟨_, (gw_tup (gl_cons (gw_name (by decide)) (gl_cons (gw_name (by decide)) (gl_cons (gw_name (by decide)) gl_nil))) rfl), t_yes, fun _ => (e_orV (b := false) (e_notN (d := wD w) (e_var rfl)) fun z => Bool.noConfusion (show true = false from z)).is rfl⟩
        rw [filt_all] at this
        rw [List.map_map]
        exact this
      · refine s_ret e_bl fun H3 v e3 hv => ?_
        cases hv.b_inv
        refine fin H3 _ ?_ ((e1.trans e2).trans e3)
        unfold returnsS
        rw [if_neg hc1, if_pos]
        rw [List.any_map, List.any_reverse] at hb2
        rw [List.all_eq_false]
        obtain ⟨i, hi, z⟩ := List.any_eq_true.mp hb2
        exact ⟨i, hi, by simpa using z⟩
      · have hc2 : ¬ (s.right.all isZ = false) := by
          rw [List.any_map, List.any_reverse] at hb2
          rw [Bool.not_eq_false, List.all_eq_true]
          intro i hi
          have := List.any_eq_false.mp hb2 i hi
          simpa using this
        have at2 := at1.mono e2
        have hblk : Ev (tCB (rLenS K) (tCons (tLc (iList K (tFld K (tVar 0) "left")) (gTup K 3 (gCons (gName 7) (gCons (gName 6) (gCons (gName 7) gNil)))) (tTest (tOp (fun x y H Q => y = V.non ∧ Q (.bl (!decide (x = V.non))) H) (tVar 6) (tC .non))) (tVar 6) [7, 6]) tNil)) (startG ["self", "shape", "blocks", "greater", "number", "symbol", "word", "_"] [.r p, shD sh]) H2 (.i ((s.left.filter Itm.isB).length : Nat)) := by
          have := e_lenN (K := K) (l_lcL (K := K) (te := tFld K (tVar 0) "left") (tg := gTup K 3 (gCons (gName 7) (gCons (gName 6) (gCons (gName 7) gNil)))) (t := tTest (tOp (fun x y H Q => y = V.non ∧ Q (.bl (!decide (x = V.non))) H) (tVar 6) (tC .non))) (tb := tVar 6) (g := startG ["self", "shape", "blocks", "greater", "number", "symbol", "word", "_"] [.r p, shD sh]) (vs := [7, 6]) itmD Itm.isB (fun i => match i with | .s _ => D.n | .b w _ => wD w) at2.lsl (e_fld 4 at2.ob T.clS T.nS_left ndS rfl rfl (e_var rfl)) (by rw [List.length_reverse]; exact lt100000 (by omega)) fun k x H2 e2 hx => by
            cases x with
            | s y => exact ⟨_, (gw_tup (gl_cons (gw_name (by decide)) (gl_cons (gw_name (by decide)) (gl_cons (gw_name (by decide)) gl_nil))) rfl), (t_test (e_notN (d := .n) (e_var rfl))).is rfl, fun z => Bool.noConfusion (show false = true from z)⟩
            | b w e => exact ⟨_, (gw_tup (gl_cons (gw_name (by decide)) (gl_cons (gw_name (by decide)) (gl_cons (gw_name (by decide)) gl_nil))) rfl), (t_test (e_notN (d := wD w) (e_var rfl))).is rfl, fun _ => e_var rfl⟩)
          refine this.is ?_
          rw [List.length_map, List.filter_reverse, List.length_reverse]
        generalize hbl : (s.left.filter Itm.isB).length = bl at hblk
        refine q_asg hblk fun H3 e3 => ?_
        refine q_when (t_test (e_gt (e_var rfl) e_int)) (fun hb3 H4 e4 => ?_) (fun hb3 H4 e4 => ?_)
        · refine s_ret e_bl fun H5 v e5 hv => ?_
          cases hv.b_inv
          refine fin H5 _ ?_ ((((e1.trans e2).trans e3).trans e4).trans e5)
          unfold returnsS
          rw [if_neg hc1, if_neg hc2]
          show (if (s.left.filter Itm.isB).length > 2 then false else _) = false
          rw [if_pos]
          rw [hbl]
          have := of_decide_eq_true hb3
          omega
        · have hbl2 : bl ≤ 2 := by
            have := of_decide_eq_false hb3
            omega
          have rl2 := sok.rl2
          refine q_asg (d := .i ((if sh.reps.length > bl then sh.reps.length else bl : Nat) : Int)) ((e_max (e_var rfl) (e_lenT (ds := sh.reps.map wD) (e_ixT hxr (e_var rfl) e_int))).is ?_) fun H5 e5 => ?_
          · rw [List.length_map]
            congr 1
            split <;> split <;> omega
          have hret : returnsS sh s = checkGo sh s (manyOf (if sh.reps.length > bl then sh.reps.length else bl)) sh.first := by
            unfold returnsS
            rw [if_neg hc1, if_neg hc2]
            show (if (s.left.filter Itm.isB).length > 2 then false else checkGo sh s (manyOf (if sh.reps.length > (s.left.filter Itm.isB).length then sh.reps.length else (s.left.filter Itm.isB).length)) sh.first) = _
            rw [hbl, if_neg (by omega)]
          have hg2 : (if sh.reps.length > bl then sh.reps.length else bl) ≤ 2 := by split <;> omega
          generalize (if sh.reps.length > bl then sh.reps.length else bl) = gr at hret hg2
          have hmany : atI [D.i 2, .i 4, .i 8] (gr : Int) = some (.i (manyOf gr : Nat)) ∧ manyOf gr ≤ 8 := by
            match gr, hg2 with
            | 0, _ => exact ⟨rfl, by decide⟩
            | 1, _ => exact ⟨rfl, by decide⟩
            | 2, _ => exact ⟨rfl, by decide⟩
          obtain ⟨hm1, hm8⟩ := hmany
          generalize manyOf gr = many at hret hm1 hm8
          have e15 := ((((e1.trans e2).trans e3).trans e4).trans e5)
          have at5 := at_.mono e15
          refine q_forR2 (lo := sh.first) (n := sh.first + (many : Int)) (a_cons (e_fld 1 at5.ob T.clS T.nS_first ndS rfl rfl (e_var rfl)) (a_cons (e_add (e_fld 1 at5.ob T.clS T.nS_first ndS rfl rfl (e_var rfl)) (e_ixN hm1 (l_lst (a_cons e_int (a_cons e_int (a_cons e_int a_nil))) (by show 3 ≤ sizeLine; decide)) (e_var rfl))) a_nil)) ⟨by omega, by omega, by omega, by omega⟩ fun H6 e6 => ⟨fun j g' H' => ∃ o4 o5 o6 o7 : Option D, g' = [some (.r p), some (shD sh), some (.i (bl : Int)), some (.i (gr : Int)), o4, o5, o6, o7] ∧ Same H H' ∧ returnsS sh s = checkGo sh s (many - j) (sh.first + (j : Int)),
            ⟨_, _, _, _, rfl, e15.trans e6, by rw [hret]; simp⟩, ?_, ?_⟩
          · rintro j g' H' hj ⟨o4, o5, o6, o7, rfl, e7, hret2⟩
            refine ⟨_, g_name, ?_⟩
            have at7 := at_.mono e7
            have hstep : checkGo sh s (many - j) (sh.first + (j : Int)) = if standsFor s (sh.first + (j : Int)) = bare (tapeOf sh (sh.first + (j : Int) + 1)) then checkGo sh s (many - (j + 1)) (sh.first + (j : Int) + 1) else false := by
              rw [show many - j = (many - (j + 1)) + 1 by omega]
              rfl
            refine s_when (t_test (e_neD (xs := standsFor s (sh.first + (j : Int))) (ys := bare (tapeOf sh (sh.first + (j : Int) + 1))) (e_meth at7.ob (by decide +kernel) (e_var rfl) (a_cons (e_var rfl) a_nil) fun H8 vs e8 hvs Q2 q => ⟨p, l, r, m, B, sh.first, s, _, hvs, at7.mono e8, ok.l, by omega, by omega, ⟨by omega, by omega⟩, f20, fun H9 v e9 hv => q H9 v e9 hv⟩)
              (e_call (a_cons (e_call (d := wD (tapeOf sh (sh.first + (j : Int) + 1))) (a_cons (e_var rfl) (a_cons (e_add (e_var rfl) e_int) a_nil)) fun H8 vs e8 hvs Q2 q => ⟨sh, _, hvs, sok.tap, ⟨by omega, by omega⟩, fun H9 v e9 hv => q H9 v e9 hv⟩) a_nil) fun H8 vs e8 hvs Q2 q => ⟨_, hvs, fun H9 v e9 hv => q H9 v e9 hv⟩))) (fun hb4 H8 e8 => ?_) (fun hb4 H8 e8 => ?_)
            · refine s_ret e_bl fun H9 v e9 hv => ?_
              cases hv.b_inv
              refine fin H9 _ ?_ ((e7.trans e8).trans e9)
              rw [hret2, hstep, if_neg (by simpa using hb4)]
            · refine n_lp ⟨_, _, _, _, rfl, e7.trans e8, ?_⟩
              rw [hret2, hstep, if_pos (by simpa using hb4)]
              congr 1
              omega
          · rintro g' H' ⟨o4, o5, o6, o7, rfl, e7, hret2⟩
            refine s_ret e_bl fun H9 v e9 hv => ?_
            cases hv.b_inv
            refine fin H9 _ ?_ (e7.trans e9)
            rw [hret2, show many - (sh.first + (many : Int) - sh.first).toNat = 0 by omega]
            rfl
end
end Tac

namespace Tac
open PySem PySem.Spec PyProof.Rows L2
theorem mirr_len (m : Mach) : (mirr m).length = m.length := by unfold mirr; rw [List.length_map]
theorem sided_len (m : Mach) (f : Bool) : (sidedM m f).length = m.length := by unfold sidedM; split; exact mirr_len m; rfl
theorem MachOk.mirr {m : Mach} {B : Nat} (h : MachOk m B) : MachOk (mirr m) B := by
  refine ⟨by rw [mirr_len]; exact h.n1, by rw [mirr_len]; exact h.n4, h.b2, h.b4, fun row hr => ?_, fun row hr r hx => ?_⟩
  · obtain ⟨row0, h0, rfl⟩ := List.mem_map.mp hr
    rw [List.length_map]; exact h.row row0 h0
  · obtain ⟨row0, h0, rfl⟩ := List.mem_map.mp hr
    obtain ⟨r0, hr0, rfl⟩ := List.mem_map.mp hx
    obtain ⟨a, b, c, d, e⟩ := h.rule row0 h0 r0 hr0
    rw [mirr_len]
    refine ⟨a, b, ?_, d, e⟩
    show -r0.2.1 = 1 ∨ -r0.2.1 = -1
    omega
theorem MachOk.sided {m : Mach} {B : Nat} (h : MachOk m B) (f : Bool) : MachOk (sidedM m f) B := by
  unfold sidedM; split
  · exact h.mirr
  · exact h
theorem MachOk.small {m : Mach} {B : Nat} (h : MachOk m B) : m.length ≤ 1000 ∧ ∀ row ∈ m, row.length ≤ 1000 := by
  have := h.n4; have := h.b4
  exact ⟨by omega, fun row hr => by rw [h.row row hr]; omega⟩
theorem rep_one (k : Nat) : rep k [0] = List.replicate k (0 : Int) := by
  unfold rep
  induction k with
  | zero => rfl
  | succ k ih => rw [List.replicate_succ, List.flatten_cons, ih, List.replicate_succ]; rfl
section
variable {K : PySem.W.Frag} {g : Ga} {H H' : Hp} {ta tb tc te : TE} {t u : TT} {d e : D} {R : D → Hp → Prop} {E : Ends} {tz : TS}
theorem m_tB (h : EvM te g H R) (hb : ∀ d H2, R d H2 → ∃ b, d = .b b) : EvTM (tB te) g H fun b H2 => R (.b b) H2 := fun σ s Q q => h σ s _ fun H2 v d e hv hR => by
  obtain ⟨b, rfl⟩ := hb d H2 hR
  exact ⟨b, hv.b_inv, q H2 b e hR⟩
theorem m_tBc {a : Bool} {Z : Hp → Prop} (h : EvM te g H fun d' H2 => d' = .b a ∧ Z H2) : EvTM (tB te) g H fun b' H2 => b' = a ∧ Z H2 := fun σ s Q q => h σ s _ fun H2 v d e hv ⟨hd, hz⟩ => by
  subst hd
  exact ⟨a, hv.b_inv, q H2 a e ⟨rfl, hz⟩⟩
theorem m_tnot {R : Bool → Hp → Prop} (h : EvTM t g H R) : EvTM (tNot t) g H fun b H2 => R (!b) H2 := fun σ s Q q => h σ s _ fun H2 b e hR => q H2 (!b) e (by show R (!!b) H2; rw [Bool.not_not]; exact hR)
theorem m_tor {a b : Bool} {Z : Hp → Prop} (h1 : EvTM t g H fun b' H2 => b' = a ∧ Z H2) (h2 : a = false → ∀ H2, Tp H H2 → Z H2 → EvT u g H2 b) (hz : ∀ H2 H3, Same H2 H3 → Z H2 → Z H3) : EvTM (tOr t u) g H fun b' H2 => b' = (a || b) ∧ Z H2 := fun σ s Q q => h1 σ s _ fun H2 b' e ⟨hb, hZ⟩ => by
  subst hb
  cases b' with
  | true => exact iteT (q H2 _ e ⟨rfl, hZ⟩)
  | false => exact iteF (h2 rfl H2 e hZ σ H2 (Same.refl _) (s.mono e) _ fun H3 e3 => q H3 _ (e.trans (tpOf e3)) ⟨rfl, hz H2 H3 e3 hZ⟩)
end
section
variable {P : Program} {w : World} {K : PySem.W.Frag} {mg : Str → Option Value} {base : Heap} {CR CS CF : Addr}

/-! ### grows -/
abbrev sGrows : Stmt := top 19
theorem sc_grows : FnScope ["machine", "shape", "symbolic", "_"] ["machine", "shape"] (defScope sGrows) := ⟨rfl, rfl, rfl, by decide +kernel, rfl, by decide +kernel, by decide +kernel⟩
def spGrows : Sp := fun vs H Q _ => ∃ (m : Mach) (B : Nat) (sh : Shp), DTs H vs [machD m, shD sh] ∧ MachOk m B ∧ ShpOk sh m.length B ∧ ∀ H', Same H H' → Q (.bl (grows m sh)) H'
theorem ok_grows {f : Addr} {fd : FuncData} (F : Fun K "grows" "grows" sGrows f fd) (T : Tx K mg CR CS CF) (c_Symbolic : CCal P w K mg base "Symbolic" CS 1 ["self", "machine", "shape"] (spSInit CS)) (c_Symbolic_move : MCal P w K mg base CS "move" 2 ["self"] (spSMove CS)) (c_Symbolic_returns : MCal P w K mg base CS "returns" 3 ["self", "shape"] (spSRet CS)) : FnOk P w K mg base CX0 4 f fd ["machine", "shape"] spGrows := by
  refine F.ok sc_grows (fun vs H Q E h => ?_) (fun cdv A outer s H vs Q E hr h => ?_)
  · obtain ⟨_, _, _, hd, _⟩ := h
    exact hd.length
  · obtain ⟨m, B, sh, hd, mo, sok, k⟩ := h
    have sc := sc_grows
    refine ⟨_, (pss_cons (ps_set (i := 2) sc.nd rfl (Or.inl rfl) (pe_makeX c_Symbolic (hr.mono (by decide)) rfl (pa_cons (pv 0) (pa_cons (pv 1) pa_nil))))
    (pss_cons (ps_for PassesOwn.never rfl (pi_range1 rfl T.range (pa_cons (pe_const T.MOST_MOVES rfl) pa_nil)) (pg_name (i := 3) sc.nd rfl (Or.inl rfl))
      (pss_cons (ps_if (pt_not (pt_val (pe_methX0 (pv 2) T.clS c_Symbolic_move (hr.mono (by decide)))))
        (pss_one (ps_ret pe_bl))
        pss_nil)
      (pss_one (ps_if (pt_val (pe_methX (pv 2) T.clS c_Symbolic_returns (hr.mono (by decide)) (pa_cons (pv 1) pa_nil)))
        (pss_one (ps_ret pe_bl))
        pss_nil))))
    (pss_one (ps_ret pe_bl)))), ?_⟩
    refine q_start hd ?_
    have fin : ∀ (H' : Hp) (b : Bool), grows m sh = b → Same H H' → Q (.bl b) H' := fun H' b hb e => by rw [← hb]; exact k H' e
    refine q_asgM (m_make (R := fun d' H2 => ∃ p l r, d' = .r p ∧ Same H H2 ∧ H p = none ∧ H l = none ∧ H r = none ∧ SyAt H2 p l r CS m sh.first (sy0 sh)) (a_cons (e_var rfl) (a_cons (e_var rfl) a_nil)) fun H1 p vs e1 hp ob hvs Q2 q => ⟨p, m, sh, hvs, ob, sok.tap, fun H2 l r f2 hl hr2 at2 => q H2 f2.tp ⟨p, l, r, rfl, f2.same e1 (fun b hb => by rw [List.mem_singleton.mp hb]; exact hp), hp, e1.free hl, e1.free hr2, at2⟩⟩) fun H1 d t1 ⟨p, l, r, hd1, e1, hp, hl, hr1, at1⟩ => ?_
    subst hd1
    have hnew : ∀ b, b ∈ [p, l, r] → H b = none := fun b hb => by
      simp at hb
      rcases hb with z | z | z <;> rw [z] <;> assumption
    refine q_forR (a_cons e_int a_nil) ⟨by decide, by decide⟩ fun H2 e2 => ⟨fun j g' H' => ∃ (o3 : Option D) (s : Sy), g' = [some (machD m), some (shD sh), some (.r p), o3] ∧ Same H H' ∧ SyAt H' p l r CS m sh.first s ∧ SyOk m B sh.first (100 + j * 25) s ∧ j ≤ 1000 ∧ grows m sh = growsGo m sh (1000 - j) s,
      ⟨_, sy0 sh, rfl, e1.trans e2, at1.mono e2, sy0_ok mo sok, Nat.zero_le _, rfl⟩, ?_, ?_⟩
    · rintro j g' H' hj ⟨o3, s, rfl, e3, at3, ok3, hj3, hg⟩
      refine ⟨_, g_name, ?_⟩
      have hstep : growsGo m sh (1000 - j) s = (match moveS m sh.first s with
        | none => false
        | some s2 => if returnsS sh s2 = true then true else growsGo m sh (1000 - (j + 1)) s2) := by
        rw [show 1000 - j = (1000 - (j + 1)) + 1 by omega]; rfl
      refine q_whenM (m_tnot (m_tB (m_meth (R := fun d' H2 => Same H H2 ∧ ((d' = .b false ∧ moveS m sh.first s = none) ∨ (d' = .b true ∧ ∃ s2, moveS m sh.first s = some s2 ∧ SyAt H2 p l r CS m sh.first s2))) at3.ob (by decide +kernel) (e_var rfl) a_nil fun H1 vs e1 hvs Q2 q => ⟨p, l, r, m, B, sh.first, _, s, hvs, at3.mono e1, mo, ok3, by omega,
          fun hm H2 f2 => q H2 _ _ f2.tp .b ⟨f2.same (e3.trans e1) hnew, .inl ⟨rfl, hm⟩⟩, fun s2 hm H2 f2 at2 => q H2 _ _ f2.tp .b ⟨f2.same (e3.trans e1) hnew, .inr ⟨rfl, s2, hm, at2⟩⟩⟩) fun d H2 ⟨_, hR⟩ => by
            rcases hR with ⟨z, _⟩ | ⟨z, _⟩
            · exact ⟨_, z⟩
            · exact ⟨_, z⟩)) (fun H4 t4 ⟨e4, hR⟩ => ?_) (fun H4 t4 ⟨e4, hR⟩ => ?_)
      · refine s_ret e_bl fun H5 v e5 hv => ?_
        cases hv.b_inv
        refine fin H5 _ ?_ (e4.trans e5)
        rcases hR with ⟨_, z⟩ | ⟨z, _⟩
        · rw [hg, hstep, z]
        · cases z
      · rcases hR with ⟨z, _⟩ | ⟨_, s2, z, at4⟩
        · cases z
        · have ok4 := moveS_ok mo ok3 z
          refine s_when (t_B (e_meth (d := .b (returnsS sh s2)) at4.ob (by decide +kernel) (e_var rfl) (a_cons (e_var rfl) a_nil) fun H5 vs e5 hvs Q2 q => ⟨p, l, r, m, B, m.length, _, sh, s2, hvs, at4.mono e5, ok4, by omega, sok, fun H6 e6 => q H6 _ e6 .b⟩)) (fun hb H5 e5 => ?_) (fun hb H5 e5 => ?_)
          · refine s_ret e_bl fun H6 v e6 hv => ?_
            cases hv.b_inv
            refine fin H6 _ ?_ ((e4.trans e5).trans e6)
            rw [hg, hstep, z]
            exact if_pos hb
          · refine n_lp ⟨_, s2, rfl, e4.trans e5, at4.mono e5, ?_, by omega, ?_⟩
            · rw [show 100 + (j + 1) * 25 = 100 + j * 25 + 25 by omega]; exact ok4
            · rw [hg, hstep, z]
              exact if_neg (by rw [hb]; decide)
    · rintro g' H' ⟨o3, s, rfl, e3, at3, ok3, hj3, hg⟩
      refine s_ret e_bl fun H5 v e5 hv => ?_
      cases hv.b_inv
      exact fin H5 _ hg (e3.trans e5)

/-! ### has_shape -/
abbrev sHas : Stmt := top 20
theorem sc_has : FnScope ["machine", "start", "shape", "runner", "first", "cells", "word"] ["machine", "start", "shape"] (defScope sHas) := ⟨rfl, rfl, rfl, by decide +kernel, rfl, by decide +kernel, by decide +kernel⟩
def spHas : Sp := fun vs H Q _ => ∃ (m : Mach) (B : Nat) (sh : Shp) (n : Nat), DTs H vs [machD m, .i n, shD sh] ∧ MachOk m B ∧ ShpOk sh m.length B ∧ n ≤ 400 ∧ ∀ H', Same H H' → Q (.bl (hasShape m n sh)) H'
theorem ok_has {f : Addr} {fd : FuncData} (F : Fun K "has_shape" "has_shape" sHas f fd) (T : Tx K mg CR CS CF) (c_sided : Cal P w K mg base "sided" 2 ["machine", "flipped"] spSided) (c_Runner : CCal P w K mg base "Runner" CR 1 ["self", "machine"] (spRInit CR)) (c_Runner_run : MCal P w K mg base CR "run" 3 ["self", "count"] (spRRun CR)) (c_Runner_cells : MCal P w K mg base CR "cells" 1 ["self"] (spRCells CR)) (c_Runner_tail : MCal P w K mg base CR "tail" 2 ["self", "start"] (spRTail CR)) (c_bare : Cal P w K mg base "bare" 1 ["word"] spBare) (c_tape_of : Cal P w K mg base "tape_of" 1 ["shape", "number"] spTape) (c_grows : Cal P w K mg base "grows" 4 ["machine", "shape"] spGrows) : FnOk P w K mg base CX0 5 f fd ["machine", "start", "shape"] spHas := by
  refine F.ok sc_has (fun vs H Q E h => ?_) (fun cdv A outer s H vs Q E hr h => ?_)
  · obtain ⟨_, _, _, _, hd, _⟩ := h
    exact hd.length
  · obtain ⟨m, B, sh, n, hd, mo, sok, hn, k⟩ := h
    have sc := sc_has
    refine ⟨_, (pss_cons (ps_set (i := 0) sc.nd rfl (Or.inl rfl) (pe_callX c_sided (hr.mono (by decide)) rfl (pa_cons (pv 0) (pa_cons (pe_ix ix_tup (pv 2) pe_int (fun _ _ => rfl)) pa_nil))))
    (pss_cons (ps_set (i := 3) sc.nd rfl (Or.inl rfl) (pe_makeX c_Runner (hr.mono (by decide)) rfl (pa_cons (pv 0) pa_nil)))
    (pss_cons (ps_if (PW.pt (pw_or (pt_val (pe_methX (pv 3) T.clR c_Runner_run (hr.mono (by decide)) (pa_cons (pv 1) pa_nil))) (pw_or1 (pt_cmpR op_ne (pe_fld (pv 3) rfl) (pe_ix ix_tup (pv 2) pe_int (fun _ _ => rfl)) (nomark _)))))
      (pss_one (ps_ret pe_bl))
      pss_nil)
    (pss_cons (ps_asg (pe_methX0 (pv 3) T.clR c_Runner_cells (hr.mono (by decide))) (pg_tup rfl (pgs_cons (pg_name (i := 4) sc.nd rfl (Or.inl rfl)) (pgs_cons (pg_name (i := 5) sc.nd rfl (Or.inl rfl)) pgs_nil))))
    (pss_cons (ps_set (i := 6) sc.nd rfl (Or.inl rfl) (pe_callX c_bare (hr.mono (by decide)) rfl (pa_cons (pe_callX c_tape_of (hr.mono (by decide)) rfl (pa_cons (pv 2) (pa_cons (pe_ix ix_tup (pv 2) pe_int (fun _ _ => rfl)) pa_nil))) pa_nil)))
    (pss_cons (ps_if (PW.pt (pw_or (pt_cmpR (op_neD hr.units) (pe_methX (pv 3) T.clR c_Runner_tail (hr.mono (by decide)) (pa_cons (pe_fld (pv 3) rfl) pa_nil)) (pe_tup pa_nil) (nomark _)) (pw_or1 (PW.pt (pw_and (pt_truth (pv 5) (by intro _; rfl)) (pw_and1 (pt_cmpR op_gt (pe_op op_add (pv 4) (pe_callB call_len_seq rfl T.len PySem.boot_len (pa_cons (pv 5) pa_nil))) (pe_fld (pv 3) rfl) (nomark _))))))))
      (pss_one (ps_ret pe_bl))
      pss_nil)
    (pss_cons (ps_if (pt_not (pt_truth (pv 5) (by intro _; rfl)))
      (pss_one (ps_ret (pe_and (pe_cmpR (op_eqD hr.units) (pv 6) (pe_tup pa_nil) (nomark _)) (pe_one (pe_callX c_grows (hr.mono (by decide)) rfl (pa_cons (pv 0) (pa_cons (pv 2) pa_nil)))))))
      pss_nil)
    (pss_one (ps_ret (pe_and (pe_cmpR (op_eqD hr.units) (pe_op op_catA (pv 5) (pe_op op_mulA (pe_tup (pa_cons pe_int pa_nil)) (pe_op op_sub (pe_op op_sub (pe_fld (pv 3) rfl) (pv 4)) (pe_callB call_len_seq rfl T.len PySem.boot_len (pa_cons (pv 5) pa_nil))))) (pv 6) (nomark _)) (pe_one (pe_callX c_grows (hr.mono (by decide)) rfl (pa_cons (pv 0) (pa_cons (pv 2) pa_nil)))))))))))))), ?_⟩
    refine q_start hd ?_
    have fin : ∀ (H' : Hp) (b : Bool), hasShape m n sh = b → Same H H' → Q (.bl b) H' := fun H' b hb e => by rw [← hb]; exact k H' e
    have hx : ∀ {i : Int} {d : D}, atI [D.b sh.flip, .i sh.st, wsD sh.words, wsD sh.reps, .i sh.first] i = some d → ∀ {g : Ga} {H : Hp} {te tb : TE}, Ev te g H (shD sh) → Ev tb g H (.i i) → Ev (tOp (rIxT K) te tb) g H d := fun h _ _ _ _ h1 h2 => e_ixT h h1 h2
    have f1 := sok.f1
    have f20 := sok.f20
    have hs : hasShape m n sh = (if (Rn.run (sidedM m sh.flip) n rn0).state = -1 ∨ (Rn.run (sidedM m sh.flip) n rn0).state ≠ sh.st then false
      else if tailW (Rn.run (sidedM m sh.flip) n rn0).cells (Rn.run (sidedM m sh.flip) n rn0).place ≠ [] ∨ ((Rn.run (sidedM m sh.flip) n rn0).cells.2 ≠ [] ∧ (Rn.run (sidedM m sh.flip) n rn0).cells.1 + ((Rn.run (sidedM m sh.flip) n rn0).cells.2.length : Int) > (Rn.run (sidedM m sh.flip) n rn0).place) then false
        else if (Rn.run (sidedM m sh.flip) n rn0).cells.2 = [] then decide (bare (tapeOf sh sh.first) = []) && grows (sidedM m sh.flip) sh
        else decide ((Rn.run (sidedM m sh.flip) n rn0).cells.2 ++ List.replicate ((Rn.run (sidedM m sh.flip) n rn0).place - (Rn.run (sidedM m sh.flip) n rn0).cells.1 - ((Rn.run (sidedM m sh.flip) n rn0).cells.2.length : Int)).toNat 0 = bare (tapeOf sh sh.first)) && grows (sidedM m sh.flip) sh) := rfl
    have mo2 := mo.sided sh.flip
    have sok2 : ShpOk sh (sidedM m sh.flip).length B := by rw [sided_len]; exact sok
    generalize hm2 : sidedM m sh.flip = m2 at hs mo2 sok2
    obtain ⟨rok, rst⟩ := run_ok mo2 n (RnOk.zero mo2)
    refine q_asg (d := machD m2) (e_call (a_cons (e_var rfl) (a_cons (hx (d := .b sh.flip) (i := 0) rfl (e_var rfl) e_int) a_nil)) fun H1 vs e1 hvs Q2 q => ⟨m, sh.flip, hvs, mo.small, fun H2 v e2 hv => q H2 v e2 (by rw [← hm2]; exact hv)⟩) fun H1 e1 => ?_
    refine q_asgM (m_make (R := fun d' H2 => ∃ p d, d' = .r p ∧ Same H H2 ∧ H p = none ∧ H d = none ∧ RnAt H2 p d CR m2 rn0) (a_cons (e_var rfl) a_nil) fun H2 p vs e2 hp ob hvs Q2 q => ⟨p, m2, hvs, ob, fun H3 d f3 hd3 at3 => q H3 f3.tp ⟨p, d, rfl, f3.same (e1.trans e2) (fun b hb => by rw [List.mem_singleton.mp hb]; exact e1.free hp), e1.free hp, (e1.trans e2).free hd3, at3⟩⟩) fun H2 dd t2 ⟨p, d, hdd, e2, hp, hdn, at2⟩ => ?_
    subst hdd
    have hnew : ∀ b, b ∈ [p, d] → H b = none := fun b hb => by
      simp at hb
      rcases hb with z | z <;> rw [z] <;> assumption
    have hr2 : ∀ {H3 : Hp}, Same H H3 → RnAt H3 p d CR m2 (Rn.run m2 n rn0) → True := fun _ _ => True.intro
    have rs0 : rn0.steps = 0 := rfl
    rw [rs0] at rst
    generalize hrun : Rn.run m2 n rn0 = r at hs rok rst
    have cb := cells_bound rok
    have rp0 := rok.p0
    have rp1 := rok.p1
    have rn0' := rok.n0
    refine q_whenM (m_tor (a := decide (r.state = -1)) (b := !decide (r.state = sh.st)) (Z := fun H3 => Same H H3 ∧ RnAt H3 p d CR m2 r) (m_tBc (m_meth (R := fun d' H3 => d' = .b (decide (r.state = -1)) ∧ Same H H3 ∧ RnAt H3 p d CR m2 r) at2.1 (by decide +kernel) (e_var rfl) (a_cons (e_var rfl) a_nil) fun H3 vs e3 hvs Q2 q => ⟨p, d, m2, B, rn0, n, hvs, at2.mono e3, mo2, RnOk.zero mo2, by rw [rs0]; omega, fun H4 f4 at4 => by
        rw [hrun] at at4 ⊢
        exact q H4 _ _ f4.tp .b ⟨rfl, f4.same (e2.trans e3) hnew, at4⟩⟩))
      (fun _ H3 t3 ⟨_, at3⟩ => t_test (e_neI (e_fld 3 at3.1 T.clR T.nR_state ndR rfl rfl (e_var rfl)) (hx (d := .i sh.st) (i := 1) rfl (e_var rfl) e_int))) fun H3 H4 e ⟨z1, z2⟩ => ⟨z1.trans e, z2.mono e⟩) (fun H3 t3 ⟨hb, e3, at3⟩ => ?_) (fun H3 t3 ⟨hb, e3, at3⟩ => ?_)
    · refine s_ret e_bl fun H4 v e4 hv => ?_
      cases hv.b_inv
      refine fin H4 _ ?_ (e3.trans e4)
      rw [hs]
      refine if_pos ?_
      rcases Bool.or_eq_true_iff.mp hb.symm with z | z
      · exact .inl (of_decide_eq_true z)
      · exact .inr (by simpa using z)
    · have hc1 : ¬ (r.state = -1 ∨ r.state ≠ sh.st) := by
        have q := Bool.or_eq_false_iff.mp hb.symm
        have z1 := of_decide_eq_false q.1
        have z2 : r.state = sh.st := by simpa using q.2
        exact fun z => z.elim z1 fun y => y z2
      have hs := hs.trans (if_neg hc1)
      refine q_asgG (d := .t [.i r.cells.1, wD r.cells.2]) (e_meth at3.1 (by decide +kernel) (e_var rfl) a_nil fun H4 vs e4 hvs Q2 q => ⟨p, d, m2, B, r, hvs, at3.mono e4, rok, by omega, fun H5 v e5 hv => q H5 v e5 hv⟩) (fun H1 => ((gw_tup (gl_cons (gw_name (by decide)) (gl_cons (gw_name (by decide)) gl_nil)) rfl) : GsW _ [4, 5] _ _ _ _).gs) fun H4 e4 => ?_
      generalize hce : r.cells = ce at hs cb
      obtain ⟨c1, cs⟩ := ce
      refine q_asg (d := wD (bare (tapeOf sh sh.first))) (e_call (a_cons (e_call (d := wD (tapeOf sh sh.first)) (a_cons (e_var rfl) (a_cons (hx (d := .i sh.first) (i := 4) rfl (e_var rfl) e_int) a_nil)) fun H5 vs e5 hvs Q2 q => ⟨sh, _, hvs, sok.tap, ⟨by omega, by omega⟩, fun H6 v e6 hv => q H6 v e6 hv⟩) a_nil) fun H5 vs e5 hvs Q2 q => ⟨_, hvs, fun H6 v e6 hv => q H6 v e6 hv⟩) fun H5 e5 => ?_
      have at5 := (at3.mono e4).mono e5
      have e35 := (e3.trans e4).trans e5
      generalize hword : bare (tapeOf sh sh.first) = word at hs
      refine q_when (t_or (t_test (e_neD (xs := tailW r.cells r.place) (ys := []) (e_meth at5.1 (by decide +kernel) (e_var rfl) (a_cons (e_fld 2 at5.1 T.clR T.nR_place ndR rfl rfl (e_var rfl)) a_nil) fun H6 vs e6 hvs Q2 q => ⟨p, d, m2, B, r, r.place, hvs, at5.mono e6, rok, by omega, by omega, fun H7 v e7 hv => q H7 v e7 hv⟩) (e_tup a_nil (by show 0 ≤ sizeLine; decide)))) fun _ => (t_and (t_truW (e_var rfl)) fun _ => (t_test (e_gt (e_add (e_var rfl) (e_lenW (e_var rfl))) (e_fld 2 at5.1 T.clR T.nR_place ndR rfl rfl (e_var rfl)))))) (fun hb2 H6 e6 => ?_) (fun hb2 H6 e6 => ?_)
      · refine s_ret e_bl fun H7 v e7 hv => ?_
        cases hv.b_inv
        refine fin H7 _ ?_ ((e35.trans e6).trans e7)
        rw [hs]
        refine if_pos ?_
        rcases Bool.or_eq_true_iff.mp hb2 with z | z
        · rw [hce] at z
          exact .inl (by simpa using z)
        · have q := Bool.and_eq_true_iff.mp z
          exact .inr ⟨nonempty_of q.1, of_decide_eq_true q.2⟩
      · have hc2 : ¬ (tailW (c1, cs) r.place ≠ [] ∨ (cs ≠ [] ∧ c1 + (cs.length : Int) > r.place)) := by
          have q := Bool.or_eq_false_iff.mp hb2
          rw [hce] at q
          have z1 : tailW (c1, cs) r.place = [] := by simpa using q.1
          refine fun z => z.elim (fun y => y z1) fun ⟨y1, y2⟩ => ?_
          rcases Bool.and_eq_false_iff.mp q.2 with z | z
          · exact y1 (empty_of z)
          · exact of_decide_eq_false z y2
        have hs := hs.trans (if_neg hc2)
        refine q_when (t_not (t_truW (e_var rfl))) (fun hb3 H7 e7 => ?_) (fun hb3 H7 e7 => ?_)
        · have hcs : cs = [] := empty_of (by simpa using hb3)
          have hs := hs.trans (if_pos hcs)
          refine s_ret (e_andV (e_eqD (ys := []) (e_var rfl) (e_tup a_nil (by show 0 ≤ sizeLine; decide))) fun _ => (e_call (d := .b (grows m2 sh)) (a_cons (e_var rfl) (a_cons (e_var rfl) a_nil)) fun H8 vs e8 hvs Q2 q => ⟨m2, B, sh, hvs, mo2, sok2, fun H9 e9 => q H9 _ e9 .b⟩)) fun H8 v e8 hv => ?_
          cases hv.b_inv
          exact fin H8 _ hs (((e35.trans e6).trans e7).trans e8)
        · have hcs : cs ≠ [] := nonempty_of (by simpa using hb3)
          have hs := hs.trans (if_neg hcs)
          have hle : ¬ c1 + (cs.length : Int) > r.place := fun z => hc2 (.inr ⟨hcs, z⟩)
          have at7 := (at5.mono e6).mono e7
          have cb1 : -r.steps ≤ c1 := cb.1
          have cb2 : c1 ≤ r.steps := cb.2.1
          have cb3 : (cs.length : Int) ≤ 2 * r.steps + 1 := cb.2.2
          refine s_ret (e_andV (e_eqD (xs := cs ++ rep (r.place - c1 - (cs.length : Int)).toNat [0]) (e_catW (by rw [rep_len, sizeLine_eq]; show _ + _ * 1 ≤ _; omega) (e_var rfl) (e_repW (xs := [0]) ⟨by omega, by omega, by decide⟩ (e_tup (a_cons e_int a_nil) (by show 1 ≤ sizeLine; decide)) (e_sub (e_sub (e_fld 2 at7.1 T.clR T.nR_place ndR rfl rfl (e_var rfl)) (e_var rfl)) (e_lenW (e_var rfl))))) (e_var rfl)) fun _ => (e_call (d := .b (grows m2 sh)) (a_cons (e_var rfl) (a_cons (e_var rfl) a_nil)) fun H8 vs e8 hvs Q2 q => ⟨m2, B, sh, hvs, mo2, sok2, fun H9 e9 => q H9 _ e9 .b⟩)) fun H8 v e8 hv => ?_
          cases hv.b_inv
          refine fin H8 _ ?_ (((e35.trans e6).trans e7).trans e8)
          rw [hs, rep_one]
end
end Tac

namespace Tac
/-! ### turns, what a Finder tries -/
structure Tu where
  steps : Nat
  state : Int
  word : List Int
/-- what has_shape asks of a machine that is not flipped any more -/
def hasOn (m : Mach) (start : Nat) (sh : Shp) : Bool :=
  if (Rn.run m start rn0).state = -1 ∨ (Rn.run m start rn0).state ≠ sh.st then false
  else if tailW (Rn.run m start rn0).cells (Rn.run m start rn0).place ≠ [] ∨ ((Rn.run m start rn0).cells.2 ≠ [] ∧ (Rn.run m start rn0).cells.1 + ((Rn.run m start rn0).cells.2.length : Int) > (Rn.run m start rn0).place) then false
  else if (Rn.run m start rn0).cells.2 = [] then decide (bare (tapeOf sh sh.first) = []) && grows m sh
  else decide ((Rn.run m start rn0).cells.2 ++ List.replicate ((Rn.run m start rn0).place - (Rn.run m start rn0).cells.1 - ((Rn.run m start rn0).cells.2.length : Int)).toNat 0 = bare (tapeOf sh sh.first)) && grows m sh
theorem hasShape_on (m : Mach) (start : Nat) (sh : Shp) : hasShape m start sh = hasOn (sidedM m sh.flip) start sh := rfl
structure TuOk (m : Mach) (t : Tu) : Prop where
  n : t.steps ≤ 140
  st : (Rn.run m t.steps rn0).state = t.state
  s0 : 0 ≤ t.state
  ln : t.word.length ≤ 40
  pl : (Rn.run m t.steps rn0).cells.1 + ((Rn.run m t.steps rn0).cells.2.length : Int) ≤ (Rn.run m t.steps rn0).place
  w0 : (Rn.run m t.steps rn0).cells.2 = [] → t.word = []
  w1 : (Rn.run m t.steps rn0).cells.2 ≠ [] → t.word = (Rn.run m t.steps rn0).cells.2 ++ List.replicate ((Rn.run m t.steps rn0).place - (Rn.run m t.steps rn0).cells.1 - ((Rn.run m t.steps rn0).cells.2.length : Int)).toNat 0
theorem hasOn_of {m : Mach} {t : Tu} {sh : Shp} (ok : TuOk m t) (h1 : t.state = sh.st) (h2 : bare (tapeOf sh sh.first) = t.word) (h3 : grows m sh = true) : hasOn m t.steps sh = true := by
  have s0 := ok.s0
  have st := ok.st
  have pl := ok.pl
  have w0 := ok.w0
  have w1 := ok.w1
  unfold hasOn
  generalize Rn.run m t.steps rn0 = r at *
  have hc1 : ¬ (r.state = -1 ∨ r.state ≠ sh.st) := fun z => z.elim (fun y => by omega) fun y => y (st.trans h1)
  rw [if_neg hc1]
  have hc2 : ¬ (tailW r.cells r.place ≠ [] ∨ (r.cells.2 ≠ [] ∧ r.cells.1 + (r.cells.2.length : Int) > r.place)) := fun z => by
    rcases z with z | ⟨_, z⟩
    · refine z ?_
      unfold tailW
      split
      · exact List.drop_of_length_le (by omega)
      · omega
    · omega
  rw [if_neg hc2]
  by_cases hc : r.cells.2 = []
  · rw [if_pos hc, h2, w0 hc, h3]; rfl
  · rw [if_neg hc, h2, ← w1 hc, h3]; simp
/-! ### counting -/
theorem nodup_le {α : Type} [DecidableEq α] : ∀ {xs ys : List α}, xs.Nodup → (∀ x ∈ xs, x ∈ ys) → xs.length ≤ ys.length
  | [], _, _, _ => Nat.zero_le _
  | x :: xs, ys, nd, h => by
    obtain ⟨h1, h2⟩ := List.nodup_cons.mp nd
    have hx := h x List.mem_cons_self
    have := nodup_le (xs := xs) (ys := ys.erase x) h2 fun y hy => (List.mem_erase_of_ne (fun e => h1 (by rw [← e]; exact hy))).mpr (h y (List.mem_cons_of_mem _ hy))
    rw [List.length_erase_of_mem hx] at this
    have hp : 0 < ys.length := List.length_pos_of_mem hx
    rw [List.length_cons]
    omega
theorem flat_le {α β : Type} {f : α → List β} {n : Nat} : ∀ {xs : List α}, (∀ x, (f x).length ≤ n) → (xs.flatMap f).length ≤ xs.length * n
  | [], _ => Nat.zero_le _
  | x :: xs, h => by
    rw [List.flatMap_cons, List.length_append, List.length_cons, Nat.succ_mul]
    have := flat_le (xs := xs) h
    have := h x
    omega
def oneS (fl : Bool) (t : Tu) (a b f : Nat) : Shp := ⟨fl, t.state, [t.word.take a, t.word.drop (a + f * b)], [(t.word.drop a).take b], f⟩
def twoS (fl : Bool) (t : Tu) (a b c d : Nat) : Shp :=
  ⟨fl, t.state, [t.word.take a, (t.word.drop (a + 2 * c)).take b, t.word.drop (a + 2 * c + b + 2 * d)], [(t.word.drop a).take c, (t.word.drop (a + 2 * c + b)).take d], 2⟩
def oneC (fl : Bool) (t : Tu) : List Shp := (List.range 25).flatMap fun a => (List.range 13).flatMap fun b => (List.range 21).flatMap fun f => [oneS fl t a b f]
def twoC (fl : Bool) (t : Tu) : List Shp := (List.range 25).flatMap fun a => (List.range 25).flatMap fun b => (List.range 12).flatMap fun c => (List.range 12).flatMap fun d => [twoS fl t a b c d]
/-- all that a Finder may try, given its turns -/
def cands (fl : Bool) (G : List Tu) : List Shp := G.flatMap fun t => oneC fl t ++ twoC fl t
theorem cands_len (fl : Bool) (G : List Tu) : (cands fl G).length ≤ G.length * 96825 := by
  refine flat_le fun t => ?_
  rw [List.length_append]
  have h1 : (oneC fl t).length ≤ 6825 := by
    refine Nat.le_trans (flat_le (n := 273) fun a => Nat.le_trans (flat_le (n := 21) fun b => Nat.le_trans (flat_le (n := 1) fun f => Nat.le_refl _) ?_) ?_) ?_ <;> rw [List.length_range] <;> decide
  have h2 : (twoC fl t).length ≤ 90000 := by
    refine Nat.le_trans (flat_le (n := 3600) fun a => Nat.le_trans (flat_le (n := 144) fun b => Nat.le_trans (flat_le (n := 12) fun c => Nat.le_trans (flat_le (n := 1) fun f => Nat.le_refl _) ?_) ?_) ?_) ?_ <;> rw [List.length_range] <;> decide
  omega
theorem oneC_mem {fl : Bool} {t : Tu} {a b f : Nat} (ha : a < 25) (hb : b < 13) (hf : f < 21) : oneS fl t a b f ∈ oneC fl t := by
  unfold oneC
  simp only [List.mem_flatMap, List.mem_range, List.mem_singleton]
  exact ⟨a, ha, b, hb, f, hf, rfl⟩
theorem twoC_mem {fl : Bool} {t : Tu} {a b c d : Nat} (ha : a < 25) (hb : b < 25) (hc : c < 12) (hd : d < 12) : twoS fl t a b c d ∈ twoC fl t := by
  unfold twoC
  simp only [List.mem_flatMap, List.mem_range, List.mem_singleton]
  exact ⟨a, ha, b, hb, c, hc, d, hd, rfl⟩
theorem cands_one {fl : Bool} {G : List Tu} {t : Tu} {s : Shp} (ht : t ∈ G) (h : s ∈ oneC fl t) : s ∈ cands fl G := List.mem_flatMap.mpr ⟨t, ht, List.mem_append_left _ h⟩
theorem cands_two {fl : Bool} {G : List Tu} {t : Tu} {s : Shp} (ht : t ∈ G) (h : s ∈ twoC fl t) : s ∈ cands fl G := List.mem_flatMap.mpr ⟨t, ht, List.mem_append_right _ h⟩
theorem rep_length (k : Nat) (w : List Int) : (rep k w).length = k * w.length := by
  unfold rep
  induction k with
  | zero => simp
  | succ k ih => rw [List.replicate_succ, List.flatten_cons, List.length_append, ih, Nat.succ_mul]; omega
theorem rep_su (k : Nat) (r : List Int) : rep (k + 1) r = r ++ rep k r := by unfold rep; rw [List.replicate_succ, List.flatten_cons]
theorem take_app {α : Type} (xs ys : List α) : (xs ++ ys).take xs.length = xs := by simp
theorem drop_app {α : Type} (xs ys : List α) : (xs ++ ys).drop xs.length = ys := by simp
/-- a shape of one repeat, from its word -/
theorem one_of {fl : Bool} {t : Tu} {a b r : List Int} {f : Nat} (hf : 1 ≤ f) (h : t.word = a ++ rep f r ++ b) : oneS fl t a.length r.length f = ⟨fl, t.state, [a, b], [r], f⟩ := by
  unfold oneS
  have e1 : t.word.take a.length = a := by rw [h, List.append_assoc, take_app]
  have e2 : t.word.drop (a.length + f * r.length) = b := by
    rw [h]
    have : a.length + f * r.length = (a ++ rep f r).length := by rw [List.length_append, rep_length]
    rw [this, drop_app]
  have e3 : (t.word.drop a.length).take r.length = r := by
    rw [h, List.append_assoc, drop_app]
    obtain ⟨k, rfl⟩ : ∃ k, f = k + 1 := ⟨f - 1, by omega⟩
    rw [rep_su, List.append_assoc, take_app]
  rw [e1, e2, e3]
theorem two_of {fl : Bool} {t : Tu} {a b c r s : List Int} (h : t.word = a ++ (rep 2 r ++ b ++ (rep 2 s ++ c))) : twoS fl t a.length b.length r.length s.length = ⟨fl, t.state, [a, b, c], [r, s], 2⟩ := by
  unfold twoS
  have h2 : rep 2 r = r ++ r := by unfold rep; simp [List.replicate_succ]
  have h3 : rep 2 s = s ++ s := by unfold rep; simp [List.replicate_succ]
  have e1 : t.word.take a.length = a := by rw [h, take_app]
  have e2 : t.word.drop (a.length + 2 * r.length) = b ++ (rep 2 s ++ c) := by
    rw [h]
    have : a.length + 2 * r.length = (a ++ rep 2 r).length := by rw [List.length_append, rep_length]
    rw [this]
    simp only [← List.append_assoc]
    rw [List.append_assoc (a ++ rep 2 r), List.append_assoc (a ++ rep 2 r), drop_app, List.append_assoc]
  have e3 : (t.word.drop a.length).take r.length = r := by
    rw [h, drop_app, h2]
    simp only [List.append_assoc]
    rw [take_app]
  have e4 : t.word.drop (a.length + 2 * r.length + b.length) = rep 2 s ++ c := by
    rw [← List.drop_drop, e2, drop_app]
  have e5 : t.word.drop (a.length + 2 * r.length + b.length + 2 * s.length) = c := by
    rw [← List.drop_drop, e4]
    have : 2 * s.length = (rep 2 s).length := by rw [rep_length]
    rw [this, drop_app]
  rw [e1, e2, e3, e4, e5, take_app, h3]
  simp only [List.append_assoc]
  rw [take_app]
end Tac

namespace Tac
open PySem PySem.Spec PyProof.Rows L2
def tuD (t : Tu) : D := .t [.i t.steps, .i t.state, wD t.word]
theorem run_succ {m : Mach} : ∀ {n : Nat} {r : Rn}, (Rn.run m n r).state ≠ -1 → Rn.run m (n + 1) r = (Rn.run m n r).step m
  | 0, r, h => by
    have h : r.state ≠ -1 := h
    show (if r.state = -1 then r else r.step m) = _
    rw [if_neg h]; rfl
  | n + 1, r, h => by
    by_cases h0 : r.state = -1
    · rw [run_stop h0] at h; exact absurd h0 h
    · have e : ∀ k, Rn.run m (k + 1) r = Rn.run m k (r.step m) := fun k => by
        show (if r.state = -1 then r else _) = _
        rw [if_neg h0]
      rw [e] at h ⊢
      rw [e]
      exact run_succ h
theorem run_steps {m : Mach} : ∀ {n : Nat} {r : Rn}, (Rn.run m n r).state ≠ -1 → (Rn.run m n r).steps = r.steps + n
  | 0, r, _ => by show r.steps = r.steps + 0; omega
  | n + 1, r, h => by
    by_cases h0 : r.state = -1
    · rw [run_stop h0] at h; exact absurd h0 h
    · have e : Rn.run m (n + 1) r = Rn.run m n (r.step m) := by
        show (if r.state = -1 then r else _) = _
        rw [if_neg h0]
      rw [e] at h ⊢
      rw [run_steps h]
      show r.steps + 1 + n = _
      omega
section
variable {P : Program} {w : World} {K : PySem.W.Frag} {mg : Str → Option Value} {base : Heap} {CR CS CF : Addr}
/-! ### turns -/
abbrev sTurns : Stmt := top 25
theorem sc_turns : FnScope ["machine", "count", "found", "runner", "_", "first", "cells", "end", "word"] ["machine", "count"] (defScope sTurns) := ⟨rfl, rfl, rfl, by decide +kernel, rfl, by decide +kernel, by decide +kernel⟩
def JT (H : Hp) (CR : Addr) (m : Mach) (n : Nat) (l p d : Addr) (j : Nat) (g' : Ga) (H' : Hp) : Prop := ∃ (o4 o5 o6 o7 o8 : Option D) (rows : List Tu), g' = [some (machD m), some (.i n), some (.r l), some (.r p), o4, o5, o6, o7, o8] ∧ Same H H' ∧ RnAt H' p d CR m (Rn.run m j rn0) ∧ LsD H' l (rows.map tuD) ∧ (∀ t ∈ rows, TuOk m t) ∧ rows.length ≤ j ∧ j ≤ n + 1
def spTurns : Sp := fun vs H Q _ => ∃ (m : Mach) (B n : Nat), DTs H vs [machD m, .i n] ∧ MachOk m B ∧ n ≤ 139 ∧ ∀ H' l (rows : List Tu), Same H H' → H l = none → LsD H' l (rows.map tuD) → (∀ t ∈ rows, TuOk m t) → rows.length ≤ 200 → Q (.ref l) H'
theorem ok_turns {f : Addr} {fd : FuncData} (F : Fun K "turns" "turns" sTurns f fd) (T : Tx K mg CR CS CF) (c_Runner : CCal P w K mg base "Runner" CR 1 ["self", "machine"] (spRInit CR)) (c_Runner_symbol : MCal P w K mg base CR "symbol" 1 ["self"] (spRSym CR)) (c_Runner_cells : MCal P w K mg base CR "cells" 1 ["self"] (spRCells CR)) (c_Runner_step : MCal P w K mg base CR "step" 2 ["self"] (spRStep CR)) : FnOk P w K mg base CX0 3 f fd ["machine", "count"] spTurns := by
  refine F.ok sc_turns (fun vs H Q E h => ?_) (fun cdv A outer s H vs Q E hr h => ?_)
  · obtain ⟨_, _, _, hd, _⟩ := h
    exact hd.length
  · obtain ⟨m, B, n, hd, mo, hn, k⟩ := h
    have sc := sc_turns
    refine ⟨_, (pss_cons (ps_set (i := 2) sc.nd rfl (Or.inl rfl) (pe_lst pa_nil))
    (pss_cons (ps_set (i := 3) sc.nd rfl (Or.inl rfl) (pe_makeX c_Runner (hr.mono (by decide)) rfl (pa_cons (pv 0) pa_nil)))
    (pss_cons (ps_for PassesOwn.never rfl (pi_range1 rfl T.range (pa_cons (pe_op op_add (pv 1) pe_int) pa_nil)) (pg_name (i := 4) sc.nd rfl (Or.inl rfl))
      (pss_cons (ps_if (pt_cmpR op_eq (pe_fld (pv 3) rfl) (pe_const T.STOP rfl) (nomark _))
        (pss_one ps_break)
        pss_nil)
      (pss_cons (ps_if (pt_cmpR op_eq (pe_methX0 (pv 3) T.clR c_Runner_symbol (hr.mono (by decide))) pe_int (nomark _))
        (pss_cons (ps_asg (pe_methX0 (pv 3) T.clR c_Runner_cells (hr.mono (by decide))) (pg_tup rfl (pgs_cons (pg_name (i := 5) sc.nd rfl (Or.inl rfl)) (pgs_cons (pg_name (i := 6) sc.nd rfl (Or.inl rfl)) pgs_nil))))
        (pss_cons (ps_set (i := 7) sc.nd rfl (Or.inl rfl) (pe_op op_add (pv 5) (pe_callB call_len_seq rfl T.len PySem.boot_len (pa_cons (pv 6) pa_nil))))
        (pss_one (ps_if (PW.pt (pw_and (pt_cmpR op_le (pv 7) (pe_fld (pv 3) rfl) (nomark _)) (pw_and1 (PW.pt (pw_or (pt_not (pt_truth (pv 6) (by intro _; rfl))) (pw_or1 (pt_cmpR op_le (pe_op op_sub (pe_fld (pv 3) rfl) (pv 5)) (pe_const T.MOST_LENGTH rfl) (nomark _))))))))
          (pss_cons (ps_set (i := 8) sc.nd rfl (Or.inl rfl) (pe_ifExp (pt_truth (pv 6) (by intro _; rfl)) (pe_op op_catA (pv 6) (pe_op op_mulA (pe_tup (pa_cons pe_int pa_nil)) (pe_op op_sub (pe_fld (pv 3) rfl) (pv 7)))) (pe_tup pa_nil)))
          (pss_one (ps_expr (pe_bm PySem.F.plainAttrs_list PySem.F.slot_list_append PySem.F.type_list_append mt_append (pv 2) (pa_cons (pe_tup (pa_cons (pe_fld (pv 3) rfl) (pa_cons (pe_fld (pv 3) rfl) (pa_cons (pv 8) pa_nil)))) pa_nil)))))
          pss_nil))))
        pss_nil)
      (pss_one (ps_expr (pe_methX0 (pv 3) T.clR c_Runner_step (hr.mono (by decide))))))))
    (pss_one (ps_ret (pv 2)))))), ?_⟩
    refine q_start hd ?_
    refine q_asgL (l_lst a_nil (by show 0 ≤ sizeLine; decide)) fun H1 l e1 hl hl1 => ?_
    obtain ⟨o1, ho1⟩ : ∃ o, H1 l = some o := let ⟨vs, h1, _⟩ := hl1; ⟨_, h1⟩
    refine q_asgM (m_make (R := fun d' H2 => ∃ p d, d' = .r p ∧ Same H1 H2 ∧ H1 p = none ∧ H1 d = none ∧ RnAt H2 p d CR m rn0) (a_cons (e_var rfl) a_nil) fun H2 p vs e2 hp ob hvs Q2 q => ⟨p, m, hvs, ob, fun H3 d f3 hd3 at3 => q H3 f3.tp ⟨p, d, rfl, f3.same e2 (fun b hb => by rw [List.mem_singleton.mp hb]; exact hp), hp, e2.free hd3, at3⟩⟩) fun H2 dd t2 ⟨p, d, hdd, e2, hp, hdn, at2⟩ => ?_
    subst hdd
    have nlp : l ≠ p := ne_of_none ho1 hp
    have nld : l ≠ d := ne_of_none ho1 hdn
    have npd := at2.ne
    have hnew : ∀ b, b ∈ [l, p, d] → H b = none := fun b hb => by
      simp at hb
      rcases hb with z | z | z
      · rw [z]; exact hl
      · rw [z]; exact e1.free hp
      · rw [z]; exact e1.free hdn
    have fin : ∀ (H' : Hp) (g : Ga) (rows : List Tu), Same H H' → g[2]? = some (some (.r l)) → LsD H' l (rows.map tuD) → (∀ t ∈ rows, TuOk m t) → rows.length ≤ 200 → W (tRet (tVar 2)) { nx := fun x H' => Q V.non H', rt := Q } g H' := fun H' g rows e hg hls hok hlen => by
      refine s_ret (e_var hg) fun H3 v e3 hv => ?_
      cases hv.r_inv
      exact k H3 l rows (e.trans e3) hl (hls.mono e3) hok hlen
    refine q_forR (n := (n : Int) + 1) (a_cons (e_add (e_var rfl) e_int) a_nil) ⟨by omega, by omega⟩ fun H3 e3 => ⟨JT H CR m n l p d,
      ⟨_, _, _, _, _, [], rfl, (e1.trans e2).trans e3, at2.mono e3, (hl1.mono e2).mono e3, (fun t h => nomatch h), Nat.le_refl _, Nat.zero_le _⟩, ?_, ?_⟩
    · rintro j g' H' hj ⟨o4, o5, o6, o7, o8, rows, rfl, e4, at4, hls, hrows, hlen, hjn⟩
      refine ⟨_, g_name, ?_⟩
      obtain ⟨rok, _⟩ := run_ok mo j (RnOk.zero mo)
      refine q_when (t_test (e_eqI (e_fld 3 at4.1 T.clR T.nR_state ndR rfl rfl (e_var rfl)) e_int)) (fun hb H5 e5 => ?_) (fun hb H5 e5 => ?_)
      · exact s_break fun σ s => fin H5 _ rows (e4.trans e5) rfl (hls.mono e5) hrows (by omega) σ s
      · have hne : (Rn.run m j rn0).state ≠ -1 := of_decide_eq_false hb
        have hsteps : (Rn.run m j rn0).steps = j := by
          rw [run_steps hne]; show (0 : Int) + j = j; omega
        have hnext := run_succ hne
        have h0 : 0 ≤ (Rn.run m j rn0).state := by have := rok.s0; omega
        have cb := cells_bound rok
        have rp0 := rok.p0
        have rp1 := rok.p1
        have tailstep : ∀ (EE : Ends) (hE : ∀ σ H', Nx (JT H CR m n l p d (j + 1)) σ H' → EE.nx σ H') (H6 : Hp) (rows' : List Tu) (o4 o5 o6 o7 o8 : Option D), Same H H6 → RnAt H6 p d CR m (Rn.run m j rn0) → LsD H6 l (rows'.map tuD) → (∀ t ∈ rows', TuOk m t) → rows'.length ≤ j + 1 →
            W (tDrop (tMeth CR "step" (spRStep CR) [] E0 (tVar 3) tNil)) EE [some (machD m), some (.i n), some (.r l), some (.r p), o4, o5, o6, o7, o8] H6 := fun EE hE H6 rows' o4 o5 o6 o7 o8 e6 at6 hl6 hr6 hn6 => by
          refine s_dropM (m_meth (R := fun d' H' => Fr [p, d] H6 H' ∧ RnAt H' p d CR m (Rn.run m (j + 1) rn0)) at6.1 (by decide +kernel) (e_var rfl) a_nil fun H7 vs e7 hvs Q2 q => ⟨p, d, m, B, _, hvs, at6.mono e7, mo, rok, h0, by omega, fun H8 f8 at8 => q H8 _ .n f8.tp .n ⟨(Fr.of e7).trans f8, by rw [hnext]; exact at8⟩⟩) fun H7 d' t7 ⟨f7, at7⟩ => fun σ s => hE σ H7 ⟨_, s, _, _, _, _, _, rows', rfl, f7.same e6 (fun b hb => hnew b (List.mem_cons_of_mem _ hb)), at7, hl6.fr f7 (by simpa using ⟨nlp, nld⟩), hr6, hn6, by omega⟩
        have at5 := at4.mono e5
        refine q_when (t_test (e_eqI (e_meth (d := .i (Rn.run m j rn0).sym) at5.1 (by decide +kernel) (e_var rfl) a_nil fun H6 vs e6 hvs Q2 q => ⟨p, d, m, _, hvs, at5.mono e6, fun H7 e7 => q H7 _ e7 .i⟩) e_int)) (fun hb2 H6 e6 => ?_) (fun hb2 H6 e6 => ?_)
        · have at6 := at5.mono e6
          have e46 := (e4.trans e5).trans e6
          refine q_asgG (d := .t [.i (Rn.run m j rn0).cells.1, wD (Rn.run m j rn0).cells.2]) (e_meth at6.1 (by decide +kernel) (e_var rfl) a_nil fun H7 vs e7 hvs Q2 q => ⟨p, d, m, B, _, hvs, at6.mono e7, rok, by omega, fun H8 v e8 hv => q H8 v e8 hv⟩) (fun H1 => ((gw_tup (gl_cons (gw_name (by decide)) (gl_cons (gw_name (by decide)) gl_nil)) rfl) : GsW _ [5, 6] _ _ _ _).gs) fun H7 e7 => ?_
          refine q_asg (e_add (e_var rfl) (e_lenW (e_var rfl))) fun H8 e8 => ?_
          have at8 := (at6.mono e7).mono e8
          have e48 := (e46.trans e7).trans e8
          have hls8 := (((hls.mono e5).mono e6).mono e7).mono e8
          refine s_when (t_and (t_test (e_le (e_var rfl) (e_fld 2 at8.1 T.clR T.nR_place ndR rfl rfl (e_var rfl)))) fun _ => (t_or (t_not (t_truW (e_var rfl))) fun _ => (t_test (e_le (e_sub (e_fld 2 at8.1 T.clR T.nR_place ndR rfl rfl (e_var rfl)) (e_var rfl)) e_int)))) (fun hb3 H9 e9 => ?_) (fun hb3 H9 e9 => ?_)
          · have q := Bool.and_eq_true_iff.mp hb3
            have q1 : (Rn.run m j rn0).cells.1 + ((Rn.run m j rn0).cells.2.length : Int) ≤ (Rn.run m j rn0).place := of_decide_eq_true q.1
            have q2 : (Rn.run m j rn0).cells.2 = [] ∨ (Rn.run m j rn0).place - (Rn.run m j rn0).cells.1 ≤ 40 := by
              rcases Bool.or_eq_true_iff.mp q.2 with z | z
              · exact .inl (empty_of (by simpa using z))
              · exact .inr (of_decide_eq_true z)
            have at9 := at8.mono e9
            have hst : (Rn.run m j rn0).state = (Rn.run m j rn0).state := rfl
            generalize hw : (if (Rn.run m j rn0).cells.2 = [] then [] else (Rn.run m j rn0).cells.2 ++ List.replicate ((Rn.run m j rn0).place - (Rn.run m j rn0).cells.1 - ((Rn.run m j rn0).cells.2.length : Int)).toNat (0 : Int)) = wd
            refine q_asg (d := wD wd) (e_if (t_truW (e_var rfl)) (fun hc => (e_catW (ys := rep ((Rn.run m j rn0).place - ((Rn.run m j rn0).cells.1 + ((Rn.run m j rn0).cells.2.length : Int))).toNat [0]) (by rw [rep_len, sizeLine_eq]; show _ + _ * 1 ≤ _; omega) (e_var rfl) (e_repW (xs := [0]) ⟨by omega, by omega, by decide⟩ (e_tup (a_cons e_int a_nil) (by show 1 ≤ sizeLine; decide)) (e_sub (e_fld 2 at9.1 T.clR T.nR_place ndR rfl rfl (e_var rfl)) (e_var rfl)))).is (by
                rw [rep_one, ← hw, if_neg (nonempty_of hc)]
                congr 4
                omega)) fun hc => (e_tup a_nil (by show 0 ≤ sizeLine; decide)).is (by rw [← hw, if_pos (empty_of hc)]; rfl)) fun Ha ea => ?_
            have ata := at9.mono ea
            refine s_app ((hls8.mono e9).mono ea) (by rw [List.length_map]; exact lt100000 (by omega)) (e_var rfl) (e_tup (a_cons (e_fld 4 ata.1 T.clR T.nR_steps ndR rfl rfl (e_var rfl)) (a_cons (e_fld 3 ata.1 T.clR T.nR_state ndR rfl rfl (e_var rfl)) (a_cons (e_var rfl) a_nil))) (by show 3 ≤ sizeLine; decide)) fun Hb fb hlb => ?_
            have e4a := ((e48.trans e9).trans ea)
            refine tailstep _ (fun σ H' h => h) Hb (rows ++ [⟨j, (Rn.run m j rn0).state, wd⟩]) _ _ _ _ _ (fb.same e4a fun b hb => hnew b (by rw [List.mem_singleton.mp hb]; exact List.mem_cons_self)) (ata.fr fb (by simpa using nlp.symm) (by simpa using nld.symm)) ?_ ?_ (by rw [List.length_append]; show _ + 1 ≤ _; omega)
            · rw [List.map_append]
              show LsD Hb l (rows.map tuD ++ [.t [.i ((j : Nat) : Int), .i (Rn.run m j rn0).state, wD wd]])
              rw [hsteps] at hlb
              exact hlb
            · intro t ht
              rcases List.mem_append.mp ht with z | z
              · exact hrows t z
              · rw [List.mem_singleton.mp z]
                refine ⟨by show j ≤ 140; omega, rfl, h0, ?_, q1, ?_, ?_⟩
                · show wd.length ≤ 40
                  rw [← hw]
                  split
                  · exact Nat.zero_le _
                  · rename_i hc
                    rcases q2 with z | z
                    · exact absurd z hc
                    · rw [List.length_append, List.length_replicate]; omega
                · intro hc
                  show wd = []
                  rw [← hw, if_pos hc]
                · intro hc
                  show wd = _
                  rw [← hw, if_neg hc]
          · exact tailstep _ (fun σ H' h => h) H9 rows _ _ _ _ _ (e48.trans e9) (at8.mono e9) (hls8.mono e9) hrows (by omega)
        · exact tailstep _ (fun σ H' h => h) H6 rows _ _ _ _ _ ((e4.trans e5).trans e6) (at5.mono e6) ((hls.mono e5).mono e6) hrows (by omega)
    · rintro g' H' ⟨o4, o5, o6, o7, o8, rows, rfl, e4, at4, hls, hrows, hlen, hjn⟩
      exact fin H' _ rows e4 rfl hls hrows (by omega)
end
end Tac

namespace Tac
open PySem PySem.Spec PyProof.Rows L2
section
variable {P : Program} {w : World} {K : PySem.W.Frag} {g : Ga} {H H' : Hp} {ta tb tc te : TE} {t u : TT} {d e : D} {R : D → Hp → Prop} {E : Ends} {tz : TS}
/-- a test with some answer -/
theorem m_tX {r : R2} {x y : D} {X : Prop} (ha : Ev ta g H x) (hb : Ev tb g H y) (hr : ∀ H1 v w, Same H H1 → DT H1 v x → DT H1 w y → ∀ Q : VK, (∀ b, (b = false → X) → Q (.bl b) H1) → r v w H1 Q) : EvTM (tTest (tOp r ta tb)) g H fun b H2 => Same H H2 ∧ (b = false → X) := fun σ s Q q =>
  ha σ H (Same.refl _) s _ fun H2 v e2 hv => hb σ H2 e2 (s.mono (tpOf e2)) _ fun H3 w e3 hw => hr H3 v w (e2.trans e3) (hv.mono (tpOf e3)) hw _ fun b hX => ⟨b, rfl, q H3 b (tpOf (e2.trans e3)) ⟨e2.trans e3, hX⟩⟩
theorem m_torX {X : Prop} {b : Bool} (h1 : EvTM t g H fun b' H2 => Same H H2 ∧ (b' = false → X)) (h2 : X → ∀ H2, Same H H2 → EvT u g H2 b) : EvTM (tOr t u) g H fun b' H2 => Same H H2 ∧ (b' = false → X ∧ b = false) := fun σ s Q q => h1 σ s _ fun H2 b' e ⟨e2, hX⟩ => by
  cases b' with
  | true => exact iteT (q H2 _ e ⟨e2, fun z => Bool.noConfusion z⟩)
  | false => exact iteF (h2 (hX rfl) H2 e2 σ H2 (Same.refl _) (s.mono e) _ fun H3 e3 => q H3 _ (e.trans (tpOf e3)) ⟨e2.trans e3, fun z => ⟨hX rfl, z⟩⟩)
theorem s_setTr {l : Addr} {ks : List NestedKey} {ds : List D} (hl : Trd P w H l ks) (hp : pureD (.t ds) = true) (hdep : (toK (.t ds)).depth ≤ 8) (hn : toK (.t ds) ∉ ks) (hz : ks.length < sizeLine) (h : Ev te g H (.b true)) (ha : Ev ta g H (.r l)) (hb : Ev tb g H (.t ds)) (k : ∀ H1, Fr [l] H H1 → Trd P w H1 l (ks ++ [toK (.t ds)]) → N E g H1) : W (tAsg te (gSub ta tb (rSetTr P w))) E g H := fun σ s =>
  h σ H (Same.refl _) s _ fun H1 v e hv => ha σ H1 e (s.mono (tpOf e)) _ fun H2 w2 e2 hw => hb σ H2 (e.trans e2) (s.mono (tpOf (e.trans e2))) _ fun H3 z e3 hz' => by
    have e13 := (e.trans e2).trans e3
    obtain ⟨a, vs, rfl, h1, h2⟩ := hz'.t_inv
    exact ⟨a, l, .t ds, ks, hw.r_inv, rfl, hv.b_inv, hl.mono e13, .t h1 h2, hp, hdep, hn, hz, fun H4 f4 tr4 => k H4 ((Fr.of e13).trans f4) tr4 σ ((s.mono (tpOf e13)).mono f4.tp)⟩
theorem q_setTr {l : Addr} {ks : List NestedKey} {ds : List D} (hl : Trd P w H l ks) (hp : pureD (.t ds) = true) (hdep : (toK (.t ds)).depth ≤ 8) (hn : toK (.t ds) ∉ ks) (hz : ks.length < sizeLine) (h : Ev te g H (.b true)) (ha : Ev ta g H (.r l)) (hb : Ev tb g H (.t ds)) (k : ∀ H1, Fr [l] H H1 → Trd P w H1 l (ks ++ [toK (.t ds)]) → W tz E g H1) : W (tSeq (tAsg te (gSub ta tb (rSetTr P w))) tz) E g H := s_setTr (E := { E with nx := tz E }) hl hp hdep hn hz h ha hb k
theorem m_dnewX : EvM (tDNewX P w) g H fun d H2 => Same H H2 ∧ ∃ p, d = .r p ∧ H p = none ∧ Trd P w H2 p [] := fun σ s Q q p hp hs =>
  q _ _ (.r p) (tpOf (Same.new hp)) .r ⟨Same.new hp, p, rfl, hp, [], upd_same, hs, rfl, List.nodup_nil, fun x h => nomatch h⟩
end
theorem pure_words (ws : List (List Int)) : pureDs (ws.map wD) = true := by
  induction ws with
  | nil => rfl
  | cons x xs ih =>
    show (pureDs (x.map D.i) && pureDs (xs.map wD)) = true
    rw [pureDs_ints, ih]; rfl
theorem pure_sh (sh : Shp) : pureD (shD sh) = true := by
  show (true && (true && (pureDs (sh.words.map wD) && (pureDs (sh.reps.map wD) && (true && true))))) = true
  rw [pure_words, pure_words]; rfl
theorem depthAll_le {n : Nat} : ∀ {ks : List NestedKey}, (∀ k ∈ ks, k.depth ≤ n) → NestedKey.depthAll ks ≤ n
  | [], _ => by simp only [NestedKey.depthAll]; exact Nat.zero_le _
  | k :: ks, h => by
    simp only [NestedKey.depthAll]
    exact Nat.max_le.mpr ⟨h k List.mem_cons_self, depthAll_le fun x hx => h x (List.mem_cons_of_mem _ hx)⟩
theorem toKs_map : ∀ (xs : List D), toKs xs = xs.map toK
  | [] => rfl
  | x :: xs => by
    show toK x :: toKs xs = _
    rw [toKs_map xs]; rfl
theorem depth_t {n : Nat} {ds : List D} (h : ∀ d ∈ ds, (toK d).depth ≤ n) : (toK (.t ds)).depth ≤ n + 1 := by
  show (NestedKey.tup (toKs ds)).depth ≤ _
  simp only [NestedKey.depth]
  rw [toKs_map]
  have := depthAll_le (n := n) (ks := ds.map toK) fun k hk => by
    obtain ⟨d, hd, rfl⟩ := List.mem_map.mp hk
    exact h d hd
  omega
theorem depth_i (x : Int) : (toK (.i x)).depth = 0 := by
  show (NestedKey.num x).depth = 0
  simp only [NestedKey.depth]
theorem depth_b (x : Bool) : (toK (.b x)).depth = 0 := by
  show (NestedKey.num _).depth = 0
  simp only [NestedKey.depth]
theorem depth_ints (xs : List Int) : (toK (wD xs)).depth ≤ 1 := depth_t (n := 0) fun d hd => by
  obtain ⟨x, _, rfl⟩ := List.mem_map.mp hd
  rw [depth_i]; exact Nat.le_refl _
theorem depth_words (ws : List (List Int)) : (toK (.t (ws.map wD))).depth ≤ 2 := depth_t (n := 1) fun d hd => by
  obtain ⟨x, _, rfl⟩ := List.mem_map.mp hd
  exact depth_ints x
theorem depth_sh (sh : Shp) : (toK (shD sh)).depth ≤ 8 := Nat.le_trans (depth_t (n := 2) fun d hd => by
  simp at hd
  rcases hd with z | z | z | z | z <;> rw [z]
  · rw [depth_b]; exact Nat.zero_le _
  · rw [depth_i]; exact Nat.zero_le _
  · exact depth_words _
  · exact depth_words _
  · rw [depth_i]; exact Nat.zero_le _) (by decide)
/-- a Finder at p, its dict at d -/
structure FnAt (P : Program) (w : World) (H : Hp) (p d C : Addr) (m : Mach) (fl : Bool) (G : List Tu) : Prop where
  ob : Ob NF H p C [machD m, .b fl, .r d]
  tr : ∃ ks, Trd P w H d ks ∧ ∀ k ∈ ks, k ∈ (cands fl G).map fun s => toK (shD s)
  ne : p ≠ d
theorem FnAt.mono {P : Program} {w : World} {H H' : Hp} {p d C : Addr} {m : Mach} {fl : Bool} {G : List Tu} (h : FnAt P w H p d C m fl G) (e : Same H H') : FnAt P w H' p d C m fl G := ⟨h.ob.mono e, let ⟨ks, a, b⟩ := h.tr; ⟨ks, a.mono e, b⟩, h.ne⟩
def foD : Option (Nat × Shp) → D
  | none => .n
  | some (n, sh) => .t [.i n, shD sh]
/-- what a Finder hands back -/
def FoOk (m : Mach) (B : Nat) (fl : Bool) (o : Option (Nat × Shp)) : Prop := ∀ n sh, o = some (n, sh) → n ≤ 140 ∧ sh.flip = fl ∧ ShpOk sh m.length B ∧ hasOn m n sh = true
theorem FoOk.none {m : Mach} {B : Nat} {fl : Bool} : FoOk m B fl none := fun n sh h => nomatch h
section
variable {P : Program} {w : World} {K : PySem.W.Frag} {mg : Str → Option Value} {base : Heap} {CR CS CF : Addr}

/-! ### Finder.__init__ -/
abbrev sFInit : Stmt := inClass (top 28) 0
theorem sc_finit : FnScope ["self", "machine", "flipped"] ["self", "machine", "flipped"] (defScope sFInit) := ⟨rfl, rfl, rfl, by decide +kernel, rfl, by decide +kernel, by decide +kernel⟩
def spFInit (P : Program) (w : World) (CF : Addr) : Sp := fun vs H Q _ => ∃ (p : Addr) (m : Mach) (B : Nat) (fl : Bool), DTs H vs [.r p, machD m, .b fl] ∧ Ob ([] : List Str) H p CF [] ∧ MachOk m B ∧ ∀ H' d, Fr [p] H H' → H d = none → (∀ G, FnAt P w H' p d CF (sidedM m fl) fl G) → Q .non H'
theorem ok_finit {f : Addr} {fd : FuncData} (F : Fun K "__init__" "Finder.__init__" sFInit f fd) (T : Tx K mg CR CS CF) (c_sided : Cal P w K mg base "sided" 2 ["machine", "flipped"] spSided) : FnOk P w K mg base CX0 3 f fd ["self", "machine", "flipped"] (spFInit P w CF) := by
  refine F.ok sc_finit (fun vs H Q E h => ?_) (fun cdv A outer s H vs Q E hr h => ?_)
  · obtain ⟨_, _, _, _, hd, _⟩ := h
    exact hd.length
  · obtain ⟨p, m, B, fl, hd, ob, mo, k⟩ := h
    refine ⟨_, (pss_cons (ps_fld (pv 0) (pe_callX c_sided (hr.mono (by decide)) rfl (pa_cons (pv 1) (pa_cons (pv 2) pa_nil))) rfl)
    (pss_cons (ps_fld (pv 0) (pv 2) rfl)
    (pss_one (ps_fld (pv 0) pe_dnewX rfl)))), ?_⟩
    refine q_start hd ?_
    refine q_fldN 0 T.clF T.nF_machine ndF rfl (by decide) (ob.re (Nm := NF)) rfl (e_call (d := machD (sidedM m fl)) (a_cons (e_var rfl) (a_cons (e_var rfl) a_nil)) fun H1 vs e1 hvs Q2 q => ⟨m, fl, hvs, mo.small, fun H2 v e2 hv => q H2 v e2 hv⟩) (e_var rfl) fun H1 f1 ob => ?_
    refine q_fldN 1 T.clF T.nF_flipped ndF rfl (by decide) ob rfl (e_var rfl) (e_var rfl) fun H2 f2 ob => ?_
    refine s_fldM (p := p) 2 T.clF T.nF_tried ndF rfl (by decide) (m_dnewX (P := P) (w := w)) fun H3 dd t3 ⟨e3, d, hdd, hn, htr⟩ => ?_
    subst hdd
    obtain ⟨o1, ho1⟩ := ob.some
    have npd : p ≠ d := ne_of_none ho1 hn
    refine ⟨_, ob.mono e3, rfl, e_var rfl, fun H4 f4 ob => ?_⟩
    have htr4 := htr.fr f4 (by simpa using npd.symm)
    exact fun _ _ => k H4 d (((f1.trans f2).trans (Fr.of e3)).trans f4) ((f1.trans f2).nn d hn) fun G => ⟨ob, ⟨[], htr4, fun k h => nomatch h⟩, npd⟩

/-! ### Finder.attempt -/
abbrev sFAtt : Stmt := inClass (top 28) 1
theorem sc_fatt : FnScope ["self", "turn", "first", "words", "repeats", "step", "state", "word", "shape"] ["self", "turn", "first", "words", "repeats"] (defScope sFAtt) := ⟨rfl, rfl, rfl, by decide +kernel, rfl, by decide +kernel, by decide +kernel⟩
/-- what all of a Finder's searches promise -/
def FoR (P : Program) (w : World) (CF : Addr) (H : Hp) (p d : Addr) (m : Mach) (B : Nat) (fl : Bool) (G : List Tu) (Q : VK) : Prop := ∀ H' v o, Fr [d] H H' → FnAt P w H' p d CF m fl G → DT H' v (foD o) → FoOk m B fl o → Q v H'
def spFAtt (P : Program) (w : World) (CF : Addr) : Sp := fun vs H Q _ => ∃ (p d : Addr) (m : Mach) (B : Nat) (fl : Bool) (G : List Tu) (t : Tu) (first : Int) (words reps : List (List Int)), DTs H vs [.r p, tuD t, .i first, wsD words, wsD reps] ∧ FnAt P w H p d CF m fl G ∧ MachOk m B ∧ TuOk m t ∧ G.length ≤ 120 ∧
  (hasForm ⟨fl, t.state, words, reps, first⟩ m.length B = true → (⟨fl, t.state, words, reps, first⟩ : Shp) ∈ cands fl G) ∧ FoR P w CF H p d m B fl G Q
theorem ok_fatt {f : Addr} {fd : FuncData} (F : Fun K "attempt" "Finder.attempt" sFAtt f fd) (T : Tx K mg CR CS CF) (c_has_shape_form : Cal P w K mg base "has_shape_form" 2 ["value", "states", "symbols"] spForm) (c_bare : Cal P w K mg base "bare" 1 ["word"] spBare) (c_tape_of : Cal P w K mg base "tape_of" 1 ["shape", "number"] spTape) (c_grows : Cal P w K mg base "grows" 4 ["machine", "shape"] spGrows) : FnOk P w K mg base CX0 5 f fd ["self", "turn", "first", "words", "repeats"] (spFAtt P w CF) := by
  refine F.ok sc_fatt (fun vs H Q E h => ?_) (fun cdv A outer s H vs Q E hr h => ?_)
  · obtain ⟨_, _, _, _, _, _, _, _, _, _, hd, _⟩ := h
    exact hd.length
  · obtain ⟨p, d, m, B, fl, G, t, first, words, reps, hd, at_, mo, tok, hG, hcand, k⟩ := h
    have sc := sc_fatt
    have hu : (A.deeper (envOfC "Finder.attempt" (defScope sFAtt) s.heap.objs.size f cdv)).units + 64 < cLine := hr.units
    refine ⟨_, (pss_cons (ps_asg (pv 1) (pg_tup rfl (pgs_cons (pg_name (i := 5) sc.nd rfl (Or.inl rfl)) (pgs_cons (pg_name (i := 6) sc.nd rfl (Or.inl rfl)) (pgs_cons (pg_name (i := 7) sc.nd rfl (Or.inl rfl)) pgs_nil)))))
    (pss_cons (ps_set (i := 8) sc.nd rfl (Or.inl rfl) (pe_tup (pa_cons (pe_fld (pv 0) rfl) (pa_cons (pv 6) (pa_cons (pv 3) (pa_cons (pv 4) (pa_cons (pv 2) pa_nil)))))))
    (pss_cons (ps_if (PW.pt (pw_or (pt_cmpR (op_inTr hr.units) (pv 8) (pe_fld (pv 0) rfl) rfl) (pw_or1 (pt_not (pt_val (pe_callX c_has_shape_form (hr.mono (by decide)) rfl (pa_cons (pv 8) (pa_cons (pe_callB call_len_seq rfl T.len PySem.boot_len (pa_cons (pe_fld (pv 0) rfl) pa_nil)) (pa_cons (pe_callB call_len_seq rfl T.len PySem.boot_len (pa_cons (pe_ix ix_tup (pe_fld (pv 0) rfl) pe_int (fun _ _ => rfl)) pa_nil)) pa_nil)))))))))
      (pss_one (ps_ret pe_non))
      pss_nil)
    (pss_cons (ps_asg pe_bl (pg_sub (pe_fld (pv 0) rfl) (pv 8) (set_tr hr.units)))
    (pss_cons (ps_if (PW.pt (pw_and (pt_cmpR (op_eqD hr.units) (pe_callX c_bare (hr.mono (by decide)) rfl (pa_cons (pe_callX c_tape_of (hr.mono (by decide)) rfl (pa_cons (pv 8) (pa_cons (pv 2) pa_nil))) pa_nil)) (pv 7) (nomark _)) (pw_and1 (pt_val (pe_callX c_grows (hr.mono (by decide)) rfl (pa_cons (pe_fld (pv 0) rfl) (pa_cons (pv 8) pa_nil)))))))
      (pss_one (ps_ret (pe_tup (pa_cons (pv 5) (pa_cons (pv 8) pa_nil)))))
      pss_nil)
    (pss_one (ps_ret pe_non))))))), ?_⟩
    refine q_start hd ?_
    have npd := at_.ne
    have m1 : m.length ≥ 1 := mo.n1
    obtain ⟨row0, hrow0⟩ : ∃ row, m[0]? = some row := ⟨_, List.getElem?_eq_getElem m1⟩
    have hrB : row0.length = B := mo.row row0 (List.mem_of_getElem? hrow0)
    refine q_asgG (d := .t [.i t.steps, .i t.state, wD t.word]) (e_var rfl) (fun H1 => ((gw_tup (gl_cons (gw_name (by decide)) (gl_cons (gw_name (by decide)) (gl_cons (gw_name (by decide)) gl_nil))) rfl) : GsW _ [5, 6, 7] _ _ _ _).gs) fun H1 e1 => ?_
    have at1 := at_.mono e1
    generalize hsh : (⟨fl, t.state, words, reps, first⟩ : Shp) = sh at hcand
    have hfst : first = sh.first := by rw [← hsh]
    refine q_asg (d := shD sh) ((e_tup (a_cons (e_fld 1 at1.ob T.clF T.nF_flipped ndF rfl rfl (e_var rfl)) (a_cons (e_var rfl) (a_cons (e_var rfl) (a_cons (e_var rfl) (a_cons (e_var rfl) a_nil))))) (by show 5 ≤ sizeLine; decide)).is (by rw [← hsh]; rfl)) fun H2 e2 => ?_
    have at2 := at1.mono e2
    obtain ⟨ks, htr, hks⟩ := at2.tr
    refine q_whenM (m_torX (X := toK (shD sh) ∉ ks) (m_tX (e_var (d := shD sh) rfl) (e_fld 2 at2.ob T.clF T.nF_tried ndF rfl rfl (e_var rfl)) fun H3 v w2 e3 hv hw Q2 q => by
        obtain ⟨a, vs, rfl, h1, h2⟩ := hv.t_inv
        exact ⟨a, d, shD sh, ks, rfl, hw.r_inv, htr.mono e3, .t h1 h2, pure_sh sh, depth_sh sh, q⟩)
      fun _ H3 e3 => t_not (t_B (e_call (d := .b (hasForm sh m.length B)) (a_cons (e_var rfl) (a_cons (e_lenT (ds := m.map rowD) (e_fld 0 (at2.ob.mono e3) T.clF T.nF_machine ndF rfl rfl (e_var rfl))) (a_cons (e_lenT (ds := row0.map ruleD) (e_ixT (d := rowD row0) (atI_get (k := 0) (by rw [List.getElem?_map, hrow0]; rfl)) (e_fld 0 (at2.ob.mono e3) T.clF T.nF_machine ndF rfl rfl (e_var rfl)) e_int)) a_nil))) fun H4 vs e4 hvs Q2 q => ⟨sh, m.length, B, by rw [List.length_map, List.length_map, hrB] at hvs; exact hvs, fun H5 e5 => q H5 _ e5 .b⟩))) (fun H3 t3 ⟨e3, hX⟩ => ?_) (fun H3 t3 ⟨e3, hX⟩ => ?_)
    · refine s_ret e_non fun H4 v e4 hv => k H4 v none (Fr.of (((e1.trans e2).trans e3).trans e4)) ((at2.mono e3).mono e4) hv FoOk.none
    · obtain ⟨hnk, hf⟩ := hX rfl
      have hform : hasForm sh m.length B = true := by simpa using hf
      have sok := hasForm_ok hform
      have hmem := hcand hform
      have at3 := at2.mono e3
      have e13 := (e1.trans e2).trans e3
      have hlen : ks.length < sizeLine := by
        obtain ⟨xs, _, _, _, nd, _⟩ := htr
        have q1 := nodup_le nd hks
        rw [List.length_map] at q1
        have q2 := cands_len fl G
        have q3 : G.length * 96825 ≤ 120 * 96825 := Nat.mul_le_mul_right _ hG
        rw [sizeLine_eq]
        omega
      refine q_setTr (htr.mono e3) (pure_sh sh) (depth_sh sh) hnk hlen e_bl (e_fld 2 at3.ob T.clF T.nF_tried ndF rfl rfl (e_var rfl)) (e_var (d := shD sh) rfl) fun H4 f4 tr4 => ?_
      have at4 : FnAt P w H4 p d CF m fl G := ⟨at3.ob.fr f4 (by simpa using npd), ⟨_, tr4, fun k hk => by
        rcases List.mem_append.mp hk with z | z
        · exact hks k z
        · rw [List.mem_singleton.mp z]
          exact List.mem_map.mpr ⟨sh, hmem, rfl⟩⟩, npd⟩
      have f04 : Fr [d] H H4 := (Fr.of e13).trans f4
      have g0 := sok.f1
      have g20 := sok.f20
      refine q_when (t_and (t_test (e_eqD (xs := bare (tapeOf sh first)) (ys := t.word) (e_call (a_cons (e_call (d := wD (tapeOf sh first)) (a_cons (e_var rfl) (a_cons (e_var rfl) a_nil)) fun H5 vs e5 hvs Q2 q => ⟨sh, first, hvs, sok.tap, ⟨by omega, by omega⟩, fun H6 v e6 hv => q H6 v e6 hv⟩) a_nil) fun H5 vs e5 hvs Q2 q => ⟨_, hvs, fun H6 v e6 hv => q H6 v e6 hv⟩) (e_var rfl))) fun _ => (t_B (e_call (d := .b (grows m sh)) (a_cons (e_fld 0 at4.ob T.clF T.nF_machine ndF rfl rfl (e_var rfl)) (a_cons (e_var rfl) a_nil)) fun H5 vs e5 hvs Q2 q => ⟨m, B, sh, hvs, mo, sok, fun H6 e6 => q H6 _ e6 .b⟩))) (fun hb H5 e5 => ?_) (fun hb H5 e5 => ?_)
      · have q := Bool.and_eq_true_iff.mp hb
        refine s_ret (d := foD (some (t.steps, sh))) (e_tup (a_cons (e_var rfl) (a_cons (e_var rfl) a_nil)) (by show 2 ≤ sizeLine; decide)) fun H6 v e6 hv => k H6 v _ (f04.trans (Fr.of (e5.trans e6))) ((at4.mono e5).mono e6) hv fun n s2 hs => ?_
        cases hs
        refine ⟨tok.n, by rw [← hsh], sok, hasOn_of tok (by rw [← hsh]) ?_ q.2⟩
        rw [← hfst]
        exact of_decide_eq_true q.1
      · exact s_ret e_non fun H6 v e6 hv => k H6 v none (f04.trans (Fr.of (e5.trans e6))) ((at4.mono e5).mono e6) hv FoOk.none
end
end Tac

namespace Tac
open PySem PySem.Spec PyProof.Rows L2
section
variable {K : PySem.W.Frag} {g : Ga} {H H' : Hp} {ta tb tc te : TE} {t u : TT} {d e : D} {R : D → Hp → Prop} {E : Ends} {tz tu : TS} {tg : TG}
/-- an argument list of one int, not known in full -/
def EvX (ta : TA) (g : Ga) (H : Hp) (X : Int → Prop) : Prop := ∀ σ, Sl H σ g → ∀ Q : List V → Hp → Prop, (∀ H1 n, Same H H1 → X n → Q [.int n] H1) → ta σ H Q
theorem s_forRX {tl : TA} {X : Int → Prop} (hl : EvX tl g H X) (hn : ∀ n, X n → -(2 ^ 62) ≤ n ∧ n < 2 ^ 62) (h : ∀ H1 n, Same H H1 → X n → ∃ J : Nat → Ga → Hp → Prop, J 0 g H1 ∧
    (∀ (k : Nat) g' H', (k : Int) < n → J k g' H' → ∃ g2, Gs tg g' H' (.i k) g2 ∧ W tu (lp E (J (k + 1))) g2 H') ∧ ∀ g' H', J n.toNat g' H' → N E g' H') : W (tFor (iRng1 tl) tg tu) E g H := fun σ s =>
  hl σ s _ fun H1 n e1 hX => by
    obtain ⟨J, j0, jn, jd⟩ := h H1 n e1 hX
    have hn := hn n hX
    refine ⟨n, rfl, hn.1, hn.2, for_range (lo := 0) (n := n.toNat) (fun k => Nx (J k)) ⟨g, s.mono (tpOf e1), j0⟩ ?_ ?_⟩
    · rintro k σ' H' hk ⟨g', s', hj⟩
      obtain ⟨g2, hg, hw⟩ := jn k g' H' (by omega) hj
      rw [Int.zero_add]
      exact hg σ' _ s' .i _ fun σ2 s2 => hw σ2 s2
    · rintro σ' H' ⟨g', s', hj⟩
      exact jd g' H' hj σ' s'
theorem q_forRX {tl : TA} {X : Int → Prop} (hl : EvX tl g H X) (hn : ∀ n, X n → -(2 ^ 62) ≤ n ∧ n < 2 ^ 62) (h : ∀ H1 n, Same H H1 → X n → ∃ J : Nat → Ga → Hp → Prop, J 0 g H1 ∧
    (∀ (k : Nat) g' H', (k : Int) < n → J k g' H' → ∃ g2, Gs tg g' H' (.i k) g2 ∧ W tu (lp { E with nx := tz E } (J (k + 1))) g2 H') ∧ ∀ g' H', J n.toNat g' H' → W tz E g' H') : W (tSeq (tFor (iRng1 tl) tg tu) tz) E g H := s_forRX (E := { E with nx := tz E }) hl hn h
/-- shared(a, b) + 1 -/
theorem x_shared {tl : TA} {a b : List Int} (ha : EvA tl g H [wD a, wD b]) : EvX (tCons (tOp (rI0 fun i j => .int (i + j)) (tCall spShared [] E0 tl) (tC (.int 1))) tNil) g H fun n => ∃ k : Nat, n = (k : Int) + 1 ∧ k ≤ a.length ∧ k ≤ b.length ∧ a.take k = b.take k := fun σ s Q q =>
  ha σ H (Same.refl _) s _ fun H2 vs e2 hs => by
    rw [List.append_nil]
    exact ⟨a, b, hs, fun H3 k e3 h1 h2 h3 => ⟨(k : Int), 1, rfl, rfl, q H3 _ (e2.trans e3) ⟨k, rfl, h1, h2, h3⟩⟩⟩
end
theorem cut_mid' {α : Type} (ws : List α) (a b : Nat) : cutD ws (some (a : Int)) (some ((a : Int) + (b : Int))) = (ws.drop a).take b := by
  rw [cut_mid _ _ _ (by omega) (by omega), show (a : Int).toNat = a by omega, show ((a : Int) + (b : Int)).toNat - a = b by omega]
theorem cut_from' {α : Type} (ws : List α) (a b : Nat) : cutD ws (some ((a : Int) + (b : Int))) none = ws.drop (a + b) := by
  rw [cut_from _ _ (by omega), show ((a : Int) + (b : Int)).toNat = a + b by omega]
theorem take_le {α : Type} {a b : List α} {j k : Nat} (h : a.take k = b.take k) (hj : j ≤ k) : a.take j = b.take j := by
  have := congrArg (List.take j) h
  rw [List.take_take, List.take_take, Nat.min_eq_left hj] at this
  exact this
section
variable {P : Program} {w : World} {K : PySem.W.Frag} {mg : Str → Option Value} {base : Heap} {CR CS CF : Addr}
theorem FnAt.fr1 {H H' : Hp} {p d C : Addr} {m : Mach} {fl : Bool} {G : List Tu} (h : FnAt P w H p d C m fl G) {S : List Addr} (e : Fr S H H') (n1 : p ∉ S) (n2 : d ∉ S) : FnAt P w H' p d C m fl G := ⟨h.ob.fr e n1, let ⟨ks, a, b⟩ := h.tr; ⟨ks, a.fr e n2, b⟩, h.ne⟩
/-- what a call of a search gives -/
def FoM (P : Program) (w : World) (CF : Addr) (H : Hp) (p d : Addr) (m : Mach) (B : Nat) (fl : Bool) (G : List Tu) : D → Hp → Prop := fun d' H' => ∃ o, d' = foD o ∧ Fr [d] H H' ∧ FnAt P w H' p d CF m fl G ∧ FoOk m B fl o
theorem FoM.foR {H : Hp} {p d : Addr} {m : Mach} {B : Nat} {fl : Bool} {G : List Tu} {Q : VK} {H0 : Hp} (e : Same H0 H) (q : ∀ H2 z d', Tp H H2 → DT H2 z d' → FoM P w CF H0 p d m B fl G d' H2 → Q z H2) : FoR P w CF H p d m B fl G Q := fun H' v o f at_ hv ok => q H' v _ f.tp hv ⟨o, rfl, (Fr.of e).trans f, at_, ok⟩

/-! ### Finder.one_repeat -/
abbrev sFOne : Stmt := inClass (top 28) 2
theorem sc_fone : FnScope ["self", "early", "late", "size", "at", "repeat", "before", "behind", "many", "found"] ["self", "early", "late"] (defScope sFOne) := ⟨rfl, rfl, rfl, by decide +kernel, rfl, by decide +kernel, by decide +kernel⟩
def spFOne (P : Program) (w : World) (CF : Addr) : Sp := fun vs H Q _ => ∃ (p d : Addr) (m : Mach) (B : Nat) (fl : Bool) (G : List Tu) (ea la : Tu), DTs H vs [.r p, tuD ea, tuD la] ∧ FnAt P w H p d CF m fl G ∧ MachOk m B ∧ TuOk m ea ∧ TuOk m la ∧ la ∈ G ∧ G.length ≤ 120 ∧
  (ea.word.length + 1 ≤ la.word.length ∧ la.word.length ≤ ea.word.length + 12) ∧ FoR P w CF H p d m B fl G Q
theorem ok_fone {f : Addr} {fd : FuncData} (F : Fun K "one_repeat" "Finder.one_repeat" sFOne f fd) (T : Tx K mg CR CS CF) (c_shared : Cal P w K mg base "shared" 1 ["one", "two"] spShared) (c_pulled : Cal P w K mg base "pulled" 1 ["before", "behind", "repeat"] spPulled) (c_Finder_attempt : MCal P w K mg base CF "attempt" 5 ["self", "turn", "first", "words", "repeats"] (spFAtt P w CF)) : FnOk P w K mg base CX0 6 f fd ["self", "early", "late"] (spFOne P w CF) := by
  refine F.ok sc_fone (fun vs H Q E h => ?_) (fun cdv A outer s H vs Q E hr h => ?_)
  · obtain ⟨_, _, _, _, _, _, _, _, hd, _⟩ := h
    exact hd.length
  · obtain ⟨p, d, m, B, fl, G, ea, la, hd, at_, mo, eok, lok, hla, hG, ⟨hl1, hl2⟩, k⟩ := h
    have sc := sc_fone
    refine ⟨_, (pss_cons (ps_set (i := 3) sc.nd rfl (Or.inl rfl) (pe_op op_sub (pe_callB call_len_seq rfl T.len PySem.boot_len (pa_cons (pe_ix ix_tup (pv 2) pe_int (fun _ _ => rfl)) pa_nil)) (pe_callB call_len_seq rfl T.len PySem.boot_len (pa_cons (pe_ix ix_tup (pv 1) pe_int (fun _ _ => rfl)) pa_nil))))
    (pss_cons (ps_for PassesOwn.never rfl (pi_range1 rfl T.range (pa_cons (pe_op op_add (pe_callX c_shared (hr.mono (by decide)) rfl (pa_cons (pe_ix ix_tup (pv 1) pe_int (fun _ _ => rfl)) (pa_cons (pe_ix ix_tup (pv 2) pe_int (fun _ _ => rfl)) pa_nil))) pe_int) pa_nil)) (pg_name (i := 4) sc.nd rfl (Or.inl rfl))
      (pss_cons (ps_set (i := 5) sc.nd rfl (Or.inl rfl) (pe_slice sl_tupA (pe_ix ix_tup (pv 2) pe_int (fun _ _ => rfl)) (po_some (pv 4)) (po_some (pe_op op_add (pv 4) (pv 3)))))
      (pss_one (ps_if (pt_cmpR (op_eqD hr.units) (pe_slice sl_tupA (pe_ix ix_tup (pv 2) pe_int (fun _ _ => rfl)) (po_some (pe_op op_add (pv 4) (pv 3))) po_none) (pe_slice sl_tupA (pe_ix ix_tup (pv 1) pe_int (fun _ _ => rfl)) (po_some (pv 4)) po_none) (nomark _))
        (pss_cons (ps_asg (pe_callX c_pulled (hr.mono (by decide)) rfl (pa_cons (pe_slice sl_tupA (pe_ix ix_tup (pv 1) pe_int (fun _ _ => rfl)) po_none (po_some (pv 4))) (pa_cons (pe_slice sl_tupA (pe_ix ix_tup (pv 1) pe_int (fun _ _ => rfl)) (po_some (pv 4)) po_none) (pa_cons (pv 5) pa_nil)))) (pg_tup rfl (pgs_cons (pg_name (i := 6) sc.nd rfl (Or.inl rfl)) (pgs_cons (pg_name (i := 7) sc.nd rfl (Or.inl rfl)) (pgs_cons (pg_name (i := 8) sc.nd rfl (Or.inl rfl)) pgs_nil)))))
        (pss_cons (ps_set (i := 9) sc.nd rfl (Or.inl rfl) (pe_methX (pv 0) T.clF c_Finder_attempt (hr.mono (by decide)) (pa_cons (pv 2) (pa_cons (pe_op op_add (pv 8) pe_int) (pa_cons (pe_tup (pa_cons (pv 6) (pa_cons (pv 7) pa_nil))) (pa_cons (pe_tup (pa_cons (pv 5) pa_nil)) pa_nil))))))
        (pss_one (ps_if (pt_cmpR op_notN (pv 9) pe_non (nomark _))
          (pss_one (ps_ret (pv 9)))
          pss_nil))))
        pss_nil))))
    (pss_one (ps_ret pe_non)))), ?_⟩
    refine q_start hd ?_
    have npd := at_.ne
    have wx : ∀ {t : Tu} {g : Ga} {H : Hp} {te : TE}, Ev te g H (tuD t) → Ev (tOp (rIxT K) te (tC (.int 2))) g H (wD t.word) := fun h => e_ixT rfl h e_int
    obtain ⟨sz, hsz⟩ : ∃ sz, sz = la.word.length - ea.word.length := ⟨_, rfl⟩
    refine q_asg (d := .i (sz : Int)) ((e_sub (e_lenW (wx (e_var rfl))) (e_lenW (wx (e_var rfl)))).is (by congr 1; omega)) fun H1 e1 => ?_
    refine q_forRX (x_shared (a_cons (wx (t := ea) (e_var rfl)) (a_cons (wx (t := la) (e_var rfl)) a_nil))) (fun n ⟨k, h, h2, _⟩ => by have := eok.ln; omega) fun H2 n e2 ⟨sk, hn, hk1, hk2, hk3⟩ => ⟨fun j g' H' => ∃ o4 o5 o6 o7 o8 o9 : Option D, g' = [some (.r p), some (tuD ea), some (tuD la), some (.i (sz : Int)), o4, o5, o6, o7, o8, o9] ∧ Fr [d] H H' ∧ FnAt P w H' p d CF m fl G,
      ⟨_, _, _, _, _, _, rfl, Fr.of (e1.trans e2), at_.mono (e1.trans e2)⟩, ?_, ?_⟩
    · rintro j g' H' hj ⟨o4, o5, o6, o7, o8, o9, rfl, f3, at3⟩
      refine ⟨_, g_name, ?_⟩
      have hjk : j ≤ sk := by omega
      refine q_asg (d := wD ((la.word.drop j).take sz)) ((e_slW (wx (e_var rfl)) (o_some (e_var rfl)) (o_some (e_add (e_var rfl) (e_var rfl)))).is (by rw [cut_mid'])) fun H4 e4 => ?_
      refine s_when (t_test (e_eqD (xs := la.word.drop (j + sz)) (ys := ea.word.drop j) ((e_slW (wx (e_var rfl)) (o_some (e_add (e_var rfl) (e_var rfl))) o_none).is (by rw [cut_from'])) ((e_slW (wx (e_var rfl)) (o_some (e_var rfl)) o_none).is (by rw [cut_from _ _ (by omega), Int.toNat_natCast])))) (fun hb H5 e5 => ?_) (fun hb H5 e5 => n_lp ⟨_, _, _, _, _, _, rfl, f3.trans (Fr.of (e4.trans e5)), at3.mono (e4.trans e5)⟩)
      have hrest := of_decide_eq_true hb
      generalize hrp : (la.word.drop j).take sz = rp
      have hrl : rp.length = sz := by rw [← hrp, List.length_take, List.length_drop]; omega
      have hsplit : la.word = ea.word.take j ++ rp ++ ea.word.drop j := by
        rw [← hrest, take_le hk3 hjk, ← hrp, List.append_assoc]
        conv => lhs; rw [← List.take_append_drop j la.word, ← List.take_append_drop sz (la.word.drop j), List.drop_drop]
      refine q_asgGM (m_call (R := fun d' H' => ∃ (a b : List Int) (k1 k2 : Nat), d' = .t [wD a, wD b, .i ((k1 + k2 : Nat) : Int)] ∧ Same H5 H' ∧ ea.word.take j = a ++ rep k1 rp ∧ ea.word.drop j = rep k2 rp ++ b)
        (a_cons ((e_slW (wx (e_var rfl)) o_none (o_some (e_var rfl))).is (by rw [cut_to _ _ (by omega), Int.toNat_natCast])) (a_cons ((e_slW (wx (e_var rfl)) (o_some (e_var rfl)) o_none).is (by rw [cut_from _ _ (by omega), Int.toNat_natCast])) (a_cons (e_var rfl) a_nil))) fun H6 vs e6 hvs Q2 q => ⟨ea.word.take j, ea.word.drop j, rp, hvs, by omega, fun H7 v a b k1 k2 e7 h1 h2 hv => q H7 v _ (tpOf e7) hv ⟨a, b, k1, k2, rfl, e6.trans e7, h1, h2⟩⟩) fun H6 d6 t6 ⟨a, b, k1, k2, hd6, e6, h1, h2⟩ => ?_
      subst hd6
      refine ⟨_, ((gw_tup (gl_cons (gw_name (by decide)) (gl_cons (gw_name (by decide)) (gl_cons (gw_name (by decide)) gl_nil))) rfl) : GsW _ [6, 7, 8] _ _ _ _).gs, ?_⟩
      have e46 := (e4.trans e5).trans e6
      have at6 := at3.mono e46
      have hw : la.word = a ++ rep (k1 + k2 + 1) rp ++ b := by
        rw [hsplit, h1, h2, show k1 + k2 + 1 = k1 + (1 + k2) by omega]
        have radd : ∀ i j : Nat, rep (i + j) rp = rep i rp ++ rep j rp := fun i j => by
          unfold rep
          rw [← List.replicate_append_replicate, List.flatten_append]
        rw [radd, radd]
        have : rep 1 rp = rp := by unfold rep; simp
        rw [this]
        simp only [List.append_assoc]
      refine q_asgM (m_meth (R := FoM P w CF H6 p d m B fl G) at6.ob (by decide +kernel) (e_var rfl) (a_cons (e_var rfl) (a_cons (e_add (e_var rfl) e_int) (a_cons (e_tup (a_cons (e_var rfl) (a_cons (e_var rfl) a_nil)) (by show 2 ≤ sizeLine; decide)) (a_cons (e_tup (a_cons (e_var rfl) a_nil) (by show 1 ≤ sizeLine; decide)) a_nil)))) fun H7 vs e7 hvs Q2 q => ⟨p, d, m, B, fl, G, la, ((k1 + k2 : Nat) : Int) + 1, [a, b], [rp], hvs, at6.mono e7, mo, lok, hG, fun hf => ?_, FoM.foR e7 q⟩) fun H7 d7 t7 ⟨o, hd7, f7, at7, fok⟩ => ?_
      · have sok := hasForm_ok hf
        have ha : a.length ≤ 24 := (sok.w a List.mem_cons_self).1
        have hf20 : ((k1 + k2 : Nat) : Int) + 1 ≤ 20 := sok.f20
        have := one_of (fl := fl) (t := la) (f := k1 + k2 + 1) (by omega) hw
        rw [show ((k1 + k2 : Nat) : Int) + 1 = ((k1 + k2 + 1 : Nat) : Int) by omega, ← this]
        exact cands_one hla (oneC_mem (by omega) (by omega) (by omega))
      · subst hd7
        have f07 := (f3.trans (Fr.of e46)).trans f7
        cases o with
        | none => exact s_when (t_test (e_notN (d := .n) (e_var rfl))) (fun hb H8 e8 => Bool.noConfusion (show false = true from hb)) (fun hb H8 e8 => n_lp ⟨_, _, _, _, _, _, rfl, f07.trans (Fr.of e8), at7.mono e8⟩)
        | some x =>
          refine s_when (t_test (e_notN (d := foD (some x)) (e_var rfl))) (fun hb H8 e8 => ?_) (fun hb H8 e8 => Bool.noConfusion (show true = false from hb))
          exact s_ret (e_var (d := foD (some x)) rfl) fun H9 v e9 hv => k H9 v (some x) (f07.trans (Fr.of (e8.trans e9))) ((at7.mono e8).mono e9) hv fok
    · rintro g' H' ⟨o4, o5, o6, o7, o8, o9, rfl, f3, at3⟩
      exact s_ret e_non fun H9 v e9 hv => k H9 v none (f3.trans (Fr.of e9)) (at3.mono e9) hv FoOk.none
end
end Tac

namespace Tac
open PySem PySem.Spec PyProof.Rows L2
section
variable {P : Program} {w : World} {K : PySem.W.Frag} {mg : Str → Option Value} {base : Heap} {CR CS CF : Addr}
theorem cutW_le {ws : List Int} {lo hi : Option Int} {n : Nat} (h : ws.length ≤ n) : (cutD ws lo hi).length ≤ n := Nat.le_trans (cutD_length _ _ _) h
theorem wx {K : PySem.W.Frag} {t : Tu} {g : Ga} {H : Hp} {te : TE} (h : Ev te g H (tuD t)) : Ev (tOp (rIxT K) te (tC (.int 2))) g H (wD t.word) := e_ixT rfl h e_int

/-! ### Finder.second_repeat -/
abbrev sFSec : Stmt := inClass (top 28) 4
theorem sc_fsec : FnScope ["self", "early", "middle", "late", "sizes", "one", "two", "three", "at", "length", "size", "repeat", "many", "start", "other", "words", "shape", "found"] ["self", "early", "middle", "late", "sizes"] (defScope sFSec) := ⟨rfl, rfl, rfl, by decide +kernel, rfl, by decide +kernel, by decide +kernel⟩
def spFSec (P : Program) (w : World) (CF : Addr) : Sp := fun vs H Q _ => ∃ (p d : Addr) (m : Mach) (B : Nat) (fl : Bool) (G : List Tu) (ea mi la : Tu) (at_ ln sz : Nat), DTs H vs [.r p, tuD ea, tuD mi, tuD la, .t [.i at_, .i ln, .i sz]] ∧ FnAt P w H p d CF m fl G ∧ MachOk m B ∧ TuOk m ea ∧ TuOk m mi ∧ TuOk m la ∧ la ∈ G ∧ G.length ≤ 120 ∧
  at_ ≤ ea.word.length ∧ (1 ≤ ln ∧ ln < sz ∧ sz ≤ 12) ∧ FoR P w CF H p d m B fl G Q
theorem ok_fsec {f : Addr} {fd : FuncData} (F : Fun K "second_repeat" "Finder.second_repeat" sFSec f fd) (T : Tx K mg CR CS CF) (c_shared : Cal P w K mg base "shared" 1 ["one", "two"] spShared) (c_tape_of : Cal P w K mg base "tape_of" 1 ["shape", "number"] spTape) (c_Finder_attempt : MCal P w K mg base CF "attempt" 5 ["self", "turn", "first", "words", "repeats"] (spFAtt P w CF)) : FnOk P w K mg base CX0 6 f fd ["self", "early", "middle", "late", "sizes"] (spFSec P w CF) := by
  refine F.ok sc_fsec (fun vs H Q E h => ?_) (fun cdv A outer s H vs Q E hr h => ?_)
  · obtain ⟨_, _, _, _, _, _, _, _, _, _, _, _, hd, _⟩ := h
    exact hd.length
  · obtain ⟨p, d, m, B, fl, G, ea, mi, la, at_, ln, sz, hd, fn, mo, eok, mok, lok, hla, hG, hat, ⟨hl1, hl2, hl3⟩, k⟩ := h
    have sc := sc_fsec
    refine ⟨_, (pss_cons (ps_par3 (i := 5) (j := 6) (l := 7) (by rfl) sc.nd rfl rfl rfl (by decide) (by decide) (by decide) rfl rfl rfl (pa_cons (pe_ix ix_tup (pv 1) pe_int (fun _ _ => rfl)) (pa_cons (pe_ix ix_tup (pv 2) pe_int (fun _ _ => rfl)) (pa_cons (pe_ix ix_tup (pv 3) pe_int (fun _ _ => rfl)) pa_nil))) (by rfl))
    (pss_cons (ps_asg (pv 4) (pg_tup rfl (pgs_cons (pg_name (i := 8) sc.nd rfl (Or.inl rfl)) (pgs_cons (pg_name (i := 9) sc.nd rfl (Or.inl rfl)) (pgs_cons (pg_name (i := 10) sc.nd rfl (Or.inl rfl)) pgs_nil)))))
    (pss_cons (ps_set (i := 11) sc.nd rfl (Or.inl rfl) (pe_slice sl_tupA (pv 6) (po_some (pv 8)) (po_some (pe_op op_add (pv 8) (pv 9)))))
    (pss_cons (ps_for PassesOwn.never rfl (pi_range1 rfl T.range (pa_cons (pe_op op_add (pe_callX c_shared (hr.mono (by decide)) rfl (pa_cons (pe_slice sl_tupA (pv 5) (po_some (pv 8)) po_none) (pa_cons (pe_slice sl_tupA (pv 6) (po_some (pe_op op_add (pv 8) (pv 9))) po_none) pa_nil))) pe_int) pa_nil)) (pg_name (i := 12) sc.nd rfl (Or.inl rfl))
      (pss_cons (ps_set (i := 13) sc.nd rfl (Or.inl rfl) (pe_op op_add (pe_op op_add (pv 8) (pv 9)) (pv 12)))
      (pss_cons (ps_set (i := 14) sc.nd rfl (Or.inl rfl) (pe_slice sl_tupA (pv 6) (po_some (pv 13)) (po_some (pe_op op_sub (pe_op op_add (pv 13) (pv 10)) (pv 9)))))
      (pss_cons (ps_set (i := 15) sc.nd rfl (Or.inl rfl) (pe_tup (pa_cons (pe_slice sl_tupA (pv 5) po_none (po_some (pv 8))) (pa_cons (pe_slice sl_tupA (pv 5) (po_some (pv 8)) (po_some (pe_op op_add (pv 8) (pv 12)))) (pa_cons (pe_slice sl_tupA (pv 5) (po_some (pe_op op_add (pv 8) (pv 12))) po_none) pa_nil)))))
      (pss_cons (ps_set (i := 16) sc.nd rfl (Or.inl rfl) (pe_tup (pa_cons pe_bl (pa_cons pe_int (pa_cons (pv 15) (pa_cons (pe_tup (pa_cons (pv 11) (pa_cons (pv 14) pa_nil))) (pa_cons pe_int pa_nil)))))))
      (pss_one (ps_if (PW.pt (pw_and (pt_cmpR (op_eqD hr.units) (pe_callX c_tape_of (hr.mono (by decide)) rfl (pa_cons (pv 16) (pa_cons pe_int pa_nil))) (pv 6) (nomark _)) (pw_and1 (pt_cmpR (op_eqD hr.units) (pe_callX c_tape_of (hr.mono (by decide)) rfl (pa_cons (pv 16) (pa_cons pe_int pa_nil))) (pv 7) (nomark _)))))
        (pss_cons (ps_set (i := 17) sc.nd rfl (Or.inl rfl) (pe_methX (pv 0) T.clF c_Finder_attempt (hr.mono (by decide)) (pa_cons (pv 3) (pa_cons pe_int (pa_cons (pv 15) (pa_cons (pe_tup (pa_cons (pv 11) (pa_cons (pv 14) pa_nil))) pa_nil))))))
        (pss_one (ps_if (pt_cmpR op_notN (pv 17) pe_non (nomark _))
          (pss_one (ps_ret (pv 17)))
          pss_nil)))
        pss_nil)))))))
    (pss_one (ps_ret pe_non)))))), ?_⟩
    refine q_start hd ?_
    have e40 := eok.ln
    have m40 := mok.ln
    have npd := fn.ne
    refine q_par3 (a_cons (wx (t := ea) (e_var rfl)) (a_cons (wx (t := mi) (e_var rfl)) (a_cons (wx (t := la) (e_var rfl)) a_nil))) fun H1 e1 => ?_
    refine q_asgG (d := .t [.i at_, .i ln, .i sz]) (e_var rfl) (fun H1 => ((gw_tup (gl_cons (gw_name (by decide)) (gl_cons (gw_name (by decide)) (gl_cons (gw_name (by decide)) gl_nil))) rfl) : GsW _ [8, 9, 10] _ _ _ _).gs) fun H2 e2 => ?_
    refine q_asg (d := wD ((mi.word.drop at_).take ln)) ((e_slW (e_var rfl) (o_some (e_var rfl)) (o_some (e_add (e_var rfl) (e_var rfl)))).is (by rw [cut_mid'])) fun H3 e3 => ?_
    generalize hrp : (mi.word.drop at_).take ln = rp
    have hrl : rp.length ≤ 11 := by rw [← hrp, List.length_take]; omega
    have e13 := (e1.trans e2).trans e3
    refine q_forRX (x_shared (a := cutD ea.word (some (at_ : Int)) none) (b := cutD mi.word (some ((at_ : Int) + (ln : Int))) none) (a_cons (e_slW (e_var rfl) (o_some (e_var rfl)) o_none) (a_cons (e_slW (e_var rfl) (o_some (e_add (e_var rfl) (e_var rfl))) o_none) a_nil))) (fun n ⟨k, h, h2, _⟩ => by have := cutW_le (lo := some (at_ : Int)) (hi := none) e40; omega) fun H4 n e4 ⟨sk, hn, hk1, hk2, hk3⟩ => ⟨fun j g' H' => ∃ o12 o13 o14 o15 o16 o17 : Option D, g' = [some (.r p), some (tuD ea), some (tuD mi), some (tuD la), some (.t [.i at_, .i ln, .i sz]), some (wD ea.word), some (wD mi.word), some (wD la.word), some (.i at_), some (.i ln), some (.i sz), some (wD rp), o12, o13, o14, o15, o16, o17] ∧ Fr [d] H H' ∧ FnAt P w H' p d CF m fl G,
      ⟨_, _, _, _, _, _, rfl, Fr.of (e13.trans e4), fn.mono (e13.trans e4)⟩, ?_, ?_⟩
    · rintro j g' H' hj ⟨o12, o13, o14, o15, o16, o17, rfl, f5, at5⟩
      refine ⟨_, g_name, ?_⟩
      refine q_asg (e_add (e_add (e_var rfl) (e_var rfl)) (e_var rfl)) fun H6 e6 => ?_
      refine q_asg (e_slW (e_var rfl) (o_some (e_var rfl)) (o_some (e_sub (e_add (e_var rfl) (e_var rfl)) (e_var rfl)))) fun H7 e7 => ?_
      have hol : (cutD mi.word (some ((at_ : Int) + (ln : Int) + (j : Int))) (some ((at_ : Int) + (ln : Int) + (j : Int) + (sz : Int) - (ln : Int)))).length ≤ 11 := by
        rw [cut_mid _ _ _ (by omega) (by omega), List.length_take]
        omega
      generalize cutD mi.word (some ((at_ : Int) + (ln : Int) + (j : Int))) (some ((at_ : Int) + (ln : Int) + (j : Int) + (sz : Int) - (ln : Int))) = ot at hol
      refine q_asg (e_tup (a_cons (e_slW (e_var rfl) o_none (o_some (e_var rfl))) (a_cons (e_slW (e_var rfl) (o_some (e_var rfl)) (o_some (e_add (e_var rfl) (e_var rfl)))) (a_cons (e_slW (e_var rfl) (o_some (e_add (e_var rfl) (e_var rfl))) o_none) a_nil))) (by show 3 ≤ sizeLine; decide)) fun H8 e8 => ?_
      have hw0 : (cutD ea.word none (some (at_ : Int))).length ≤ 40 := cutW_le e40
      have hw1 : (cutD ea.word (some (at_ : Int)) (some ((at_ : Int) + (j : Int)))).length ≤ 40 := cutW_le e40
      have hw2 : (cutD ea.word (some ((at_ : Int) + (j : Int))) none).length ≤ 40 := cutW_le e40
      generalize cutD ea.word none (some (at_ : Int)) = w0 at hw0
      generalize cutD ea.word (some (at_ : Int)) (some ((at_ : Int) + (j : Int))) = w1 at hw1
      generalize cutD ea.word (some ((at_ : Int) + (j : Int))) none = w2 at hw2
      refine q_asg (d := shD ⟨false, 0, [w0, w1, w2], [rp, ot], 1⟩) (e_tup (a_cons e_bl (a_cons e_int (a_cons (e_var rfl) (a_cons (e_tup (a_cons (e_var rfl) (a_cons (e_var rfl) a_nil)) (by show 2 ≤ sizeLine; decide)) (a_cons e_int a_nil))))) (by show 5 ≤ sizeLine; decide)) fun H9 e9 => ?_
      have e69 := ((e6.trans e7).trans e8).trans e9
      have tap : TapOk ⟨false, 0, [w0, w1, w2], [rp, ot], 1⟩ := ⟨rfl, Nat.le_refl 2, fun x hx => by simp at hx; rcases hx with z | z | z <;> rw [z] <;> omega, fun x hx => by simp at hx; rcases hx with z | z <;> rw [z] <;> omega⟩
      refine s_when (t_and (t_test (e_eqD (xs := tapeOf ⟨false, 0, [w0, w1, w2], [rp, ot], 1⟩ 1) (ys := mi.word) (e_call (a_cons (e_var rfl) (a_cons e_int a_nil)) fun Ha vs ea hvs Q2 q => ⟨_, 1, hvs, tap, ⟨by decide, by decide⟩, fun Hb v eb hv => q Hb v eb hv⟩) (e_var rfl))) fun _ => (t_test (e_eqD (xs := tapeOf ⟨false, 0, [w0, w1, w2], [rp, ot], 1⟩ 2) (ys := la.word) (e_call (a_cons (e_var rfl) (a_cons e_int a_nil)) fun Ha vs ea hvs Q2 q => ⟨_, 2, hvs, tap, ⟨by decide, by decide⟩, fun Hb v eb hv => q Hb v eb hv⟩) (e_var rfl)))) (fun hb Ha ea => ?_) (fun hb Ha ea => n_lp ⟨_, _, _, _, _, _, rfl, f5.trans (Fr.of (e69.trans ea)), at5.mono (e69.trans ea)⟩)
      have q := Bool.and_eq_true_iff.mp hb
      have hthree : tapeOf ⟨false, 0, [w0, w1, w2], [rp, ot], 1⟩ 2 = la.word := of_decide_eq_true q.2
      have hw : la.word = w0 ++ (rep 2 rp ++ w1 ++ (rep 2 ot ++ w2)) := by
        rw [← hthree]
        show w0 ++ (rep 2 rp ++ w1 ++ (rep 2 ot ++ w2 ++ [])) = _
        rw [List.append_nil]
      have ata := at5.mono (e69.trans ea)
      refine q_asgM (m_meth (R := FoM P w CF Ha p d m B fl G) ata.ob (by decide +kernel) (e_var rfl) (a_cons (e_var rfl) (a_cons e_int (a_cons (e_var rfl) (a_cons (e_tup (a_cons (e_var rfl) (a_cons (e_var rfl) a_nil)) (by show 2 ≤ sizeLine; decide)) a_nil)))) fun Hb vs eb hvs Q2 q => ⟨p, d, m, B, fl, G, la, 2, [w0, w1, w2], [rp, ot], hvs, ata.mono eb, mo, lok, hG, fun hf => ?_, FoM.foR eb q⟩) fun Hb db tb ⟨o, hdb, fb, atb, fok⟩ => ?_
      · have sok := hasForm_ok hf
        have h0 : w0.length ≤ 24 := (sok.w w0 List.mem_cons_self).1
        have h1 : w1.length ≤ 24 := (sok.w w1 (List.mem_cons_of_mem _ List.mem_cons_self)).1
        rw [← two_of (fl := fl) (t := la) hw]
        exact cands_two hla (twoC_mem (by omega) (by omega) (by omega) (by omega))
      · subst hdb
        have f07 := (f5.trans (Fr.of (e69.trans ea))).trans fb
        cases o with
        | none => exact s_when (t_test (e_notN (d := .n) (e_var rfl))) (fun hb H8 e8 => Bool.noConfusion (show false = true from hb)) (fun hb H8 e8 => n_lp ⟨_, _, _, _, _, _, rfl, f07.trans (Fr.of e8), atb.mono e8⟩)
        | some x =>
          refine s_when (t_test (e_notN (d := foD (some x)) (e_var rfl))) (fun hb H8 e8 => ?_) (fun hb H8 e8 => Bool.noConfusion (show true = false from hb))
          exact s_ret (e_var (d := foD (some x)) rfl) fun H9 v e9 hv => k H9 v (some x) (f07.trans (Fr.of (e8.trans e9))) ((atb.mono e8).mono e9) hv fok
    · rintro g' H' ⟨o12, o13, o14, o15, o16, o17, rfl, f5, at5⟩
      exact s_ret e_non fun H9 v e9 hv => k H9 v none (f5.trans (Fr.of e9)) (at5.mono e9) hv FoOk.none

/-! ### Finder.two_repeats -/
abbrev sFTwo : Stmt := inClass (top 28) 3
theorem sc_ftwo : FnScope ["self", "early", "middle", "late", "one", "two", "three", "size", "at", "length", "repeat", "found"] ["self", "early", "middle", "late"] (defScope sFTwo) := ⟨rfl, rfl, rfl, by decide +kernel, rfl, by decide +kernel, by decide +kernel⟩
def spFTwo (P : Program) (w : World) (CF : Addr) : Sp := fun vs H Q _ => ∃ (p d : Addr) (m : Mach) (B : Nat) (fl : Bool) (G : List Tu) (ea mi la : Tu), DTs H vs [.r p, tuD ea, tuD mi, tuD la] ∧ FnAt P w H p d CF m fl G ∧ MachOk m B ∧ TuOk m ea ∧ TuOk m mi ∧ TuOk m la ∧ la ∈ G ∧ G.length ≤ 120 ∧
  (ea.word.length + 1 ≤ mi.word.length ∧ mi.word.length ≤ ea.word.length + 12) ∧ FoR P w CF H p d m B fl G Q
theorem ok_ftwo {f : Addr} {fd : FuncData} (F : Fun K "two_repeats" "Finder.two_repeats" sFTwo f fd) (T : Tx K mg CR CS CF) (c_shared : Cal P w K mg base "shared" 1 ["one", "two"] spShared) (c_Finder_second_repeat : MCal P w K mg base CF "second_repeat" 6 ["self", "early", "middle", "late", "sizes"] (spFSec P w CF)) : FnOk P w K mg base CX0 7 f fd ["self", "early", "middle", "late"] (spFTwo P w CF) := by
  refine F.ok sc_ftwo (fun vs H Q E h => ?_) (fun cdv A outer s H vs Q E hr h => ?_)
  · obtain ⟨_, _, _, _, _, _, _, _, _, hd, _⟩ := h
    exact hd.length
  · obtain ⟨p, d, m, B, fl, G, ea, mi, la, hd, fn, mo, eok, mok, lok, hla, hG, ⟨hl1, hl2⟩, k⟩ := h
    have sc := sc_ftwo
    refine ⟨_, (pss_cons (ps_par3 (i := 4) (j := 5) (l := 6) (by rfl) sc.nd rfl rfl rfl (by decide) (by decide) (by decide) rfl rfl rfl (pa_cons (pe_ix ix_tup (pv 1) pe_int (fun _ _ => rfl)) (pa_cons (pe_ix ix_tup (pv 2) pe_int (fun _ _ => rfl)) (pa_cons (pe_ix ix_tup (pv 3) pe_int (fun _ _ => rfl)) pa_nil))) (by rfl))
    (pss_cons (ps_set (i := 7) sc.nd rfl (Or.inl rfl) (pe_op op_sub (pe_callB call_len_seq rfl T.len PySem.boot_len (pa_cons (pv 5) pa_nil)) (pe_callB call_len_seq rfl T.len PySem.boot_len (pa_cons (pv 4) pa_nil))))
    (pss_cons (ps_for PassesOwn.never rfl (pi_range1 rfl T.range (pa_cons (pe_op op_add (pe_callX c_shared (hr.mono (by decide)) rfl (pa_cons (pv 4) (pa_cons (pv 5) pa_nil))) pe_int) pa_nil)) (pg_name (i := 8) sc.nd rfl (Or.inl rfl))
      (pss_one (ps_for PassesOwn.never rfl (pi_range2 rfl T.range (pa_cons pe_int (pa_cons (pv 7) pa_nil))) (pg_name (i := 9) sc.nd rfl (Or.inl rfl))
        (pss_cons (ps_set (i := 10) sc.nd rfl (Or.inl rfl) (pe_slice sl_tupA (pv 5) (po_some (pv 8)) (po_some (pe_op op_add (pv 8) (pv 9)))))
        (pss_one (ps_if (pt_cmpR (op_eqD hr.units) (pe_slice sl_tupA (pv 6) (po_some (pv 8)) (po_some (pe_op op_add (pv 8) (pe_op op_mul pe_int (pv 9))))) (pe_op op_mulA (pv 10) pe_int) (nomark _))
          (pss_cons (ps_set (i := 11) sc.nd rfl (Or.inl rfl) (pe_methX (pv 0) T.clF c_Finder_second_repeat (hr.mono (by decide)) (pa_cons (pv 1) (pa_cons (pv 2) (pa_cons (pv 3) (pa_cons (pe_tup (pa_cons (pv 8) (pa_cons (pv 9) (pa_cons (pv 7) pa_nil)))) pa_nil))))))
          (pss_one (ps_if (pt_cmpR op_notN (pv 11) pe_non (nomark _))
            (pss_one (ps_ret (pv 11)))
            pss_nil)))
          pss_nil))))))
    (pss_one (ps_ret pe_non))))), ?_⟩
    refine q_start hd ?_
    have e40 := eok.ln
    have m40 := mok.ln
    have npd := fn.ne
    obtain ⟨sz, hsz⟩ : ∃ sz, sz = mi.word.length - ea.word.length := ⟨_, rfl⟩
    refine q_par3 (a_cons (wx (t := ea) (e_var rfl)) (a_cons (wx (t := mi) (e_var rfl)) (a_cons (wx (t := la) (e_var rfl)) a_nil))) fun H1 e1 => ?_
    refine q_asg (d := .i (sz : Int)) ((e_sub (e_lenW (e_var rfl)) (e_lenW (e_var rfl))).is (by congr 1; omega)) fun H2 e2 => ?_
    refine q_forRX (x_shared (a_cons (e_var rfl) (a_cons (e_var rfl) a_nil))) (fun n ⟨k, h, h2, _⟩ => by omega) fun H3 n e3 ⟨sk, hn, hk1, hk2, hk3⟩ => ⟨fun j g' H' => ∃ o8 o9 o10 o11 : Option D, g' = [some (.r p), some (tuD ea), some (tuD mi), some (tuD la), some (wD ea.word), some (wD mi.word), some (wD la.word), some (.i (sz : Int)), o8, o9, o10, o11] ∧ Fr [d] H H' ∧ FnAt P w H' p d CF m fl G,
      ⟨_, _, _, _, rfl, Fr.of ((e1.trans e2).trans e3), fn.mono ((e1.trans e2).trans e3)⟩, ?_, ?_⟩
    · rintro j g' H' hj ⟨o8, o9, o10, o11, rfl, f4, at4⟩
      refine ⟨_, g_name, ?_⟩
      refine s_forR2 (lo := 1) (n := (sz : Int)) (a_cons e_int (a_cons (e_var rfl) a_nil)) ⟨by omega, by omega, by omega, by omega⟩ fun H5 e5 => ⟨fun i g' H' => ∃ o9 o10 o11 : Option D, g' = [some (.r p), some (tuD ea), some (tuD mi), some (tuD la), some (wD ea.word), some (wD mi.word), some (wD la.word), some (.i (sz : Int)), some (.i (j : Int)), o9, o10, o11] ∧ Fr [d] H H' ∧ FnAt P w H' p d CF m fl G,
        ⟨_, _, _, rfl, f4.trans (Fr.of e5), at4.mono e5⟩, ?_, ?_⟩
      · rintro i g' H' hi ⟨o9, o10, o11, rfl, f6, at6⟩
        refine ⟨_, g_name, ?_⟩
        refine q_asg (e_slW (e_var rfl) (o_some (e_var rfl)) (o_some (e_add (e_var rfl) (e_var rfl)))) fun H7 e7 => ?_
        have hrl : (cutD mi.word (some (j : Int)) (some ((j : Int) + (1 + (i : Int))))).length ≤ 40 := cutW_le m40
        generalize cutD mi.word (some (j : Int)) (some ((j : Int) + (1 + (i : Int)))) = rp at hrl
        refine s_when (t_test (e_eqD (e_slW (e_var rfl) (o_some (e_var rfl)) (o_some (e_add (e_var rfl) (e_mul (.inl ⟨by decide, by decide⟩) e_int (e_var rfl))))) (e_repW (xs := rp) (k := 2) ⟨by decide, by decide, by omega⟩ (e_var rfl) e_int))) (fun hb H8 e8 => ?_) (fun hb H8 e8 => n_lp ⟨_, _, _, rfl, f6.trans (Fr.of (e7.trans e8)), at6.mono (e7.trans e8)⟩)
        have at8 := at6.mono (e7.trans e8)
        refine q_asgM (m_meth (R := FoM P w CF H8 p d m B fl G) at8.ob (by decide +kernel) (e_var rfl) (a_cons (e_var rfl) (a_cons (e_var rfl) (a_cons (e_var rfl) (a_cons (e_tup (a_cons (e_var rfl) (a_cons (e_var rfl) (a_cons (e_var rfl) a_nil))) (by show 3 ≤ sizeLine; decide)) a_nil)))) fun Hb vs eb hvs Q2 q => ⟨p, d, m, B, fl, G, ea, mi, la, j, 1 + i, sz, by rw [show ((1 + i : Nat) : Int) = 1 + (i : Int) by omega]; exact hvs, at8.mono eb, mo, eok, mok, lok, hla, hG, by omega, ⟨by omega, by omega, by omega⟩, FoM.foR eb q⟩) fun Hb db tb ⟨o, hdb, fb, atb, fok⟩ => ?_
        subst hdb
        have f07 := (f6.trans (Fr.of (e7.trans e8))).trans fb
        cases o with
        | none => exact s_when (t_test (e_notN (d := .n) (e_var rfl))) (fun hb H8 e8 => Bool.noConfusion (show false = true from hb)) (fun hb H8 e8 => n_lp ⟨_, _, _, rfl, f07.trans (Fr.of e8), atb.mono e8⟩)
        | some x =>
          refine s_when (t_test (e_notN (d := foD (some x)) (e_var rfl))) (fun hb H8 e8 => ?_) (fun hb H8 e8 => Bool.noConfusion (show true = false from hb))
          exact s_ret (e_var (d := foD (some x)) rfl) fun H9 v e9 hv => k H9 v (some x) (f07.trans (Fr.of (e8.trans e9))) ((atb.mono e8).mono e9) hv fok
      · rintro g' H' ⟨o9, o10, o11, rfl, f6, at6⟩
        exact n_lp ⟨_, _, _, _, rfl, f6, at6⟩
    · rintro g' H' ⟨o8, o9, o10, o11, rfl, f4, at4⟩
      exact s_ret e_non fun H9 v e9 hv => k H9 v none (f4.trans (Fr.of e9)) (at4.mono e9) hv FoOk.none
end
end Tac

namespace Tac
open PySem PySem.Spec PyProof.Rows L2
section
variable {K : PySem.W.Frag} {g : Ga} {H H' : Hp} {ta tb tc te : TE} {t u : TT} {d e : D} {R : D → Hp → Prop} {E : XK} {C : Addr} {m : Str} {sp : Sp} {tl : TA}
theorem l_slN {ts th : TO} {ds : List D} {lo hi : Option Int} (ha : EvL ta g H ds) (hl : EvO ts g H lo) (hh : EvO th g H hi) : EvL (tSl (rSlL K) ta ts th) g H (cutD ds lo hi) := fun σ H1 e s Q q =>
  ha σ H1 e s _ fun H2 l vs e2 hn h2 hd => hl σ H2 (e.trans e2) (s.mono (tpOf e2)) _ fun H3 e3 => hh σ H3 ((e.trans e2).trans e3) (s.mono (tpOf (e2.trans e3))) _ fun H4 e4 => by
    have e34 := e3.trans e4
    exact ⟨l, vs, rfl, SqL.of (e34 _ _ h2), fun p hp => q _ p _ ((e2.trans e34).trans (Same.new hp)) ((e2.trans e34).free hp) upd_same (((hd.mono (tpOf e34)).cut lo hi).mono (tpOf (Same.new hp)))⟩
/-- o.m(a new list) -/
theorem m_methL {Nm : List Str} {p : Addr} {fs ds : List D} (ob : Ob Nm H p C fs) (hm : m ∉ Nm) (ha : Ev ta g H (.r p)) (hl : EvL te g H ds)
    (hr : ∀ H1 l vs, Same H H1 → H l = none → LsD H1 l ds → DTs H1 vs [.r p, .r l] → ∀ Q : VK, (∀ H2 z d, Tp H1 H2 → DT H2 z d → R d H2 → Q z H2) → sp vs H1 Q E) : EvM (tMeth C m sp [] E ta (tCons te tNil)) g H R := fun σ s Q q =>
  ha σ H (Same.refl _) s _ fun H2 v e2 hv => by
    cases hv.r_inv
    obtain ⟨dx, vs, h1, h2⟩ := ob.mono e2
    refine ⟨p, dx, _, rfl, h1, lookup_zip_none hm, hl σ H2 e2 (s.mono (tpOf e2)) _ fun H3 l ws e3 hn h3 hs => ?_⟩
    show sp [.ref p, .ref l] H3 Q E
    exact hr H3 l _ (e2.trans e3) (e2.free hn) ⟨ws, h3, hs⟩ (.cons .r (.cons .r .nil)) Q fun H4 z d e4 hz hR => q H4 z d ((tpOf (e2.trans e3)).trans e4) hz hR
/-- o.m(..), o any way -/
theorem m_methM {Ro : D → Hp → Prop} {ds : List D} (ha : EvM ta g H Ro) (h : ∀ d H1, Tp H H1 → Ro d H1 → ∃ (Nm : List Str) (p : Addr) (fs : List D), d = .r p ∧ Ob Nm H1 p C fs ∧ m ∉ Nm ∧ EvA tl g H1 ds ∧ ∀ H2 vs, Same H1 H2 → DTs H2 vs (.r p :: ds) → ∀ Q : VK, (∀ H3 z d, Tp H2 H3 → DT H3 z d → R d H3 → Q z H3) → sp vs H2 Q E) : EvM (tMeth C m sp [] E ta tl) g H R := fun σ s Q q =>
  ha σ s _ fun H1 v d t1 hv hR => by
    obtain ⟨Nm, p, fs, rfl, ob, hm, hl, hr⟩ := h d H1 t1 hR
    cases hv.r_inv
    obtain ⟨dx, vs, h1, h2⟩ := ob
    refine ⟨p, dx, _, rfl, h1, lookup_zip_none hm, hl σ H1 (Same.refl _) (s.mono t1) _ fun H3 ws e3 hs => ?_⟩
    rw [List.append_nil]
    exact hr H3 _ e3 (.cons .r hs) Q fun H4 z d e4 hz hR => q H4 z d ((t1.trans (tpOf e3)).trans e4) hz hR
end
theorem mem_cutD {α : Type} {xs : List α} {lo hi : Option Int} {x : α} (h : x ∈ cutD xs lo hi) : x ∈ xs := List.mem_of_mem_drop (List.mem_of_mem_take h)
section
variable {P : Program} {w : World} {K : PySem.W.Frag} {mg : Str → Option Value} {base : Heap} {CR CS CF : Addr}
theorem FnAt.some {H : Hp} {p d C : Addr} {m : Mach} {fl : Bool} {G : List Tu} (h : FnAt P w H p d C m fl G) : ∃ o, H d = some o := let ⟨_, ⟨_, h1, _⟩, _⟩ := h.tr; ⟨_, h1⟩

/-! ### Finder.grow -/
abbrev sFGrow : Stmt := inClass (top 28) 5
theorem sc_fgrow : FnScope ["self", "rows", "at", "early", "number", "middle", "size", "found", "late"] ["self", "rows"] (defScope sFGrow) := ⟨rfl, rfl, rfl, by decide +kernel, rfl, by decide +kernel, by decide +kernel⟩
def spFGrow (P : Program) (w : World) (CF : Addr) : Sp := fun vs H Q _ => ∃ (p d l : Addr) (m : Mach) (B : Nat) (fl : Bool) (G rows : List Tu), DTs H vs [.r p, .r l] ∧ FnAt P w H p d CF m fl G ∧ MachOk m B ∧ LsD H l (rows.map tuD) ∧ l ≠ d ∧ (∀ t ∈ rows, TuOk m t ∧ t ∈ G) ∧ rows.length ≤ 30 ∧ G.length ≤ 120 ∧ FoR P w CF H p d m B fl G Q
theorem ok_fgrow {f : Addr} {fd : FuncData} (F : Fun K "grow" "Finder.grow" sFGrow f fd) (T : Tx K mg CR CS CF) (c_Finder_one_repeat : MCal P w K mg base CF "one_repeat" 6 ["self", "early", "late"] (spFOne P w CF)) (c_Finder_two_repeats : MCal P w K mg base CF "two_repeats" 7 ["self", "early", "middle", "late"] (spFTwo P w CF)) : FnOk P w K mg base CX0 8 f fd ["self", "rows"] (spFGrow P w CF) := by
  refine F.ok sc_fgrow (fun vs H Q E h => ?_) (fun cdv A outer s H vs Q E hr h => ?_)
  · obtain ⟨_, _, _, _, _, _, _, _, hd, _⟩ := h
    exact hd.length
  · obtain ⟨p, d, l, m, B, fl, G, rows, hd, fn, mo, hls, nld, hrows, hr30, hG, k⟩ := h
    have sc := sc_fgrow
    refine ⟨_, (pss_cons (ps_for PassesOwn.never rfl (pi_enum rfl T.enumerate (pa_cons (pv 1) pa_nil)) (pg_tup rfl (pgs_cons (pg_name (i := 2) sc.nd rfl (Or.inl rfl)) (pgs_cons (pg_name (i := 3) sc.nd rfl (Or.inl rfl)) pgs_nil)))
      (pss_one (ps_for PassesOwn.never rfl (pi_range2 rfl T.range (pa_cons (pe_op op_add (pv 2) pe_int) (pa_cons (pe_callB (call_min2 rfl) rfl T.min (by decide +kernel) (pa_cons (pe_callB call_len_seq rfl T.len PySem.boot_len (pa_cons (pv 1) pa_nil)) (pa_cons (pe_op op_add (pv 2) pe_int) pa_nil))) pa_nil))) (pg_name (i := 4) sc.nd rfl (Or.inl rfl))
        (pss_cons (ps_set (i := 5) sc.nd rfl (Or.inl rfl) (pe_ix ix_list (pv 1) (pv 4) (fun _ _ => rfl)))
        (pss_cons (ps_set (i := 6) sc.nd rfl (Or.inl rfl) (pe_op op_sub (pe_callB call_len_seq rfl T.len PySem.boot_len (pa_cons (pe_ix ix_tup (pv 5) pe_int (fun _ _ => rfl)) pa_nil)) (pe_callB call_len_seq rfl T.len PySem.boot_len (pa_cons (pe_ix ix_tup (pv 3) pe_int (fun _ _ => rfl)) pa_nil))))
        (pss_one (ps_if (pt_chain op_le op_le pe_int (pv 6) (pe_const T.MOST_GROWTH rfl))
          (pss_cons (ps_set (i := 7) sc.nd rfl (Or.inl rfl) (pe_methX (pv 0) T.clF c_Finder_one_repeat (hr.mono (by decide)) (pa_cons (pv 3) (pa_cons (pv 5) pa_nil))))
          (pss_cons (ps_for PassesOwn.never rfl (pi_list (pe_slice sl_list (pv 1) (po_some (pe_op op_add (pv 4) pe_int)) (po_some (pe_op op_add (pv 4) pe_int)))) (pg_name (i := 8) sc.nd rfl (Or.inl rfl))
            (pss_one (ps_if (PW.pt (pw_and (pt_cmpR op_isN (pv 7) pe_non (nomark _)) (pw_and1 (pt_cmpR op_eq (pe_op op_sub (pe_callB call_len_seq rfl T.len PySem.boot_len (pa_cons (pe_ix ix_tup (pv 8) pe_int (fun _ _ => rfl)) pa_nil)) (pe_callB call_len_seq rfl T.len PySem.boot_len (pa_cons (pe_ix ix_tup (pv 5) pe_int (fun _ _ => rfl)) pa_nil))) (pv 6) (nomark _)))))
              (pss_one (ps_set (i := 7) sc.nd rfl (Or.inl rfl) (pe_methX (pv 0) T.clF c_Finder_two_repeats (hr.mono (by decide)) (pa_cons (pv 3) (pa_cons (pv 5) (pa_cons (pv 8) pa_nil))))))
              pss_nil)))
          (pss_one (ps_if (pt_cmpR op_notN (pv 7) pe_non (nomark _))
            (pss_one (ps_ret (pv 7)))
            pss_nil))))
          pss_nil)))))))
    (pss_one (ps_ret pe_non))), ?_⟩
    refine q_start hd ?_
    obtain ⟨od, hod⟩ := fn.some
    refine q_forE (a_cons (e_var rfl) a_nil) hls fun H1 e1 => ⟨fun j g' H' => ∃ o2 o3 o4 o5 o6 o7 o8 : Option D, g' = [some (.r p), some (.r l), o2, o3, o4, o5, o6, o7, o8] ∧ Fr [d] H1 H' ∧ FnAt P w H' p d CF m fl G,
      ⟨_, _, _, _, _, _, _, rfl, Fr.refl, fn.mono e1⟩, fun j g' H' ⟨_, _, _, _, _, _, _, _, f, _⟩ => ⟨[d], f, by simpa using nld⟩, ?_, ?_⟩
    · rintro j x g' H' hx ⟨o2, o3, o4, o5, o6, o7, o8, rfl, f2, at2⟩ H3 e3
      obtain ⟨ea, hea, rfl⟩ := getElem?_map_inv hx
      obtain ⟨eok, heG⟩ := hrows ea (List.mem_of_getElem? hea)
      have hj := (List.getElem?_eq_some_iff.mp hea).1
      refine ⟨_, ((gw_tup (gl_cons (gw_name (by decide)) (gl_cons (gw_name (by decide)) gl_nil)) rfl) : GsW _ [2, 3] _ _ _ _).gs, ?_⟩
      have f13 : Fr [d] H H3 := ((Fr.of e1).trans f2).trans (Fr.of e3)
      have hls3 : LsD H3 l (rows.map tuD) := hls.fr f13 (by simpa using nld)
      have at3 := at2.mono e3
      generalize hhi : (if (j : Int) + 10 < ((rows.length : Nat) : Int) then (j : Int) + 10 else ((rows.length : Nat) : Int)) = hi
      have hhi2 : hi ≤ rows.length ∧ 0 ≤ hi := by rw [← hhi]; split <;> omega
      refine s_forR2 (lo := (j : Int) + 1) (n := hi) (a_cons (e_add (e_var rfl) e_int) (a_cons ((e_min (e_lenL hls3 (e_var rfl)) (e_add (e_var rfl) e_int)).is (by rw [List.length_map, hhi])) a_nil)) ⟨by omega, by omega, by omega, by omega⟩ fun H4 e4 => ⟨fun i g' H' => ∃ o4 o5 o6 o7 o8 : Option D, g' = [some (.r p), some (.r l), some (.i (j : Int)), some (tuD ea), o4, o5, o6, o7, o8] ∧ Fr [d] H H' ∧ Fr [d] H1 H' ∧ FnAt P w H' p d CF m fl G,
        ⟨_, _, _, _, _, rfl, f13.trans (Fr.of e4), (f2.trans (Fr.of e3)).trans (Fr.of e4), at3.mono e4⟩, ?_, ?_⟩
      · rintro i g' H' hi2 ⟨o4, o5, o6, o7, o8, rfl, f5, f51, at5⟩
        refine ⟨_, g_name, ?_⟩
        have hls5 : LsD H' l (rows.map tuD) := hls.fr f5 (by simpa using nld)
        have hni : j + 1 + i < rows.length := by omega
        have hnum : ((j : Int) + 1 + (i : Int)) = ((j + 1 + i : Nat) : Int) := by omega
        obtain ⟨mi, hmi⟩ : ∃ mi, rows[j + 1 + i]? = some mi := ⟨_, List.getElem?_eq_getElem hni⟩
        obtain ⟨mok, hmG⟩ := hrows mi (List.mem_of_getElem? hmi)
        refine q_asg (e_ixL (d := tuD mi) hls5 (by rw [hnum]; exact atI_get (by rw [List.getElem?_map, hmi]; rfl)) (e_var rfl) (e_var rfl)) fun H6 e6 => ?_
        refine q_asg (e_sub (e_lenW (wx (e_var rfl))) (e_lenW (wx (e_var rfl)))) fun H7 e7 => ?_
        have e57 := e6.trans e7
        refine s_when (t_test (e_chain (f := fun i j => decide (i ≤ j)) (f' := fun i j => decide (i ≤ j)) e_int (e_var rfl) fun _ => e_int)) (fun hb H8 e8 => ?_) (fun hb H8 e8 => n_lp ⟨_, _, _, _, _, rfl, f5.trans (Fr.of (e57.trans e8)), f51.trans (Fr.of (e57.trans e8)), at5.mono (e57.trans e8)⟩)
        have q := Bool.and_eq_true_iff.mp hb
        have q1 : 1 ≤ (mi.word.length : Int) - (ea.word.length : Int) := of_decide_eq_true q.1
        have q2 : (mi.word.length : Int) - (ea.word.length : Int) ≤ 12 := of_decide_eq_true q.2
        have e58 := e57.trans e8
        have at8 := at5.mono e58
        refine q_asgM (m_meth (R := FoM P w CF H8 p d m B fl G) at8.ob (by decide +kernel) (e_var rfl) (a_cons (e_var rfl) (a_cons (e_var rfl) a_nil)) fun Hb vs eb hvs Q2 q => ⟨p, d, m, B, fl, G, ea, mi, hvs, at8.mono eb, mo, eok, mok, hmG, hG, ⟨by omega, by omega⟩, FoM.foR eb q⟩) fun H9 d9 t9 ⟨o, hd9, f9, at9, fok⟩ => ?_
        subst hd9
        have f09 := (f5.trans (Fr.of e58)).trans f9
        have f19 := (f51.trans (Fr.of e58)).trans f9
        have hls9 : LsD H9 l (rows.map tuD) := hls.fr f09 (by simpa using nld)
        have hsl := l_slL (K := K) (lo := some ((j : Int) + 1 + (i : Int) + 1)) (hi := some ((j : Int) + 1 + (i : Int) + 10)) (tl := tPart (tOp (rI0 fun i j => .int (i + j)) (tVar 4) (tC (.int 1)))) (th := tPart (tOp (rI0 fun i j => .int (i + j)) (tVar 4) (tC (.int 10)))) (g := [some (.r p), some (.r l), some (.i (j : Int)), some (tuD ea), some (.i ((j : Int) + 1 + (i : Int))), some (tuD mi), some (.i ((mi.word.length : Int) - (ea.word.length : Int))), some (foD o), o8]) (ta := tVar 1) hls9 (e_var rfl) (o_some (e_add (e_var rfl) e_int)) (o_some (e_add (e_var rfl) e_int))
        rw [cutD_map] at hsl
        refine q_forN hsl fun Ha l2 ea2 hl2 hls2 => ⟨fun i2 g' H' => ∃ (o : Option (Nat × Shp)) (o8 : Option D), g' = [some (.r p), some (.r l), some (.i (j : Int)), some (tuD ea), some (.i ((j : Int) + 1 + (i : Int))), some (tuD mi), some (.i ((mi.word.length : Int) - (ea.word.length : Int))), some (foD o), o8] ∧ Fr [d] H H' ∧ Fr [d] H1 H' ∧ Fr [d] Ha H' ∧ FnAt P w H' p d CF m fl G ∧ FoOk m B fl o,
          ⟨o, _, rfl, f09.trans (Fr.of ea2), f19.trans (Fr.of ea2), Fr.refl, at9.mono ea2, fok⟩, fun i2 g' H' ⟨_, _, _, _, _, f, _⟩ => ⟨[d], f, by
            obtain ⟨o2, ho2⟩ := at9.some
            have := ne_of_none ho2 hl2
            simpa using this.symm⟩, ?_, ?_⟩
        · rintro i2 x g' H' hx2 ⟨o, o8, rfl, fa, fa1, faa, ata, fok⟩
          obtain ⟨la, hla, rfl⟩ := getElem?_map_inv hx2
          obtain ⟨lok, hlG⟩ := hrows la (mem_cutD (List.mem_of_getElem? hla))
          refine ⟨_, g_name, ?_⟩
          refine s_when (t_and (t_test (e_isN (d := foD o) (e_var rfl))) fun _ => (t_test (e_eqI (e_sub (e_lenW (wx (e_var rfl))) (e_lenW (wx (e_var rfl)))) (e_var rfl)))) (fun hb2 Hb eb => ?_) (fun hb2 Hb eb => n_lp ⟨o, _, rfl, fa.trans (Fr.of eb), fa1.trans (Fr.of eb), faa.trans (Fr.of eb), ata.mono eb, fok⟩)
          have atb := ata.mono eb
          refine s_asgM (m_meth (R := FoM P w CF Hb p d m B fl G) atb.ob (by decide +kernel) (e_var rfl) (a_cons (e_var rfl) (a_cons (e_var rfl) (a_cons (e_var rfl) a_nil))) fun Hc vs ec hvs Q2 q => ⟨p, d, m, B, fl, G, ea, mi, la, hvs, atb.mono ec, mo, eok, mok, lok, hlG, hG, ⟨by omega, by omega⟩, FoM.foR ec q⟩) fun Hc dc tc ⟨o2, hdc, fc, atc, fok2⟩ => ?_
          subst hdc
          exact n_lp ⟨o2, _, rfl, (fa.trans (Fr.of eb)).trans fc, (fa1.trans (Fr.of eb)).trans fc, (faa.trans (Fr.of eb)).trans fc, atc, fok2⟩
        · rintro g' H' ⟨o, o8, rfl, fa, fa1, faa, ata, fok⟩
          cases o with
          | none => exact s_when (t_test (e_notN (d := .n) (e_var rfl))) (fun hb H8 e8 => Bool.noConfusion (show false = true from hb)) (fun hb H8 e8 => n_lp ⟨_, _, _, _, _, rfl, fa.trans (Fr.of e8), fa1.trans (Fr.of e8), ata.mono e8⟩)
          | some x =>
            refine s_when (t_test (e_notN (d := foD (some x)) (e_var rfl))) (fun hb H8 e8 => ?_) (fun hb H8 e8 => Bool.noConfusion (show true = false from hb))
            exact s_ret (e_var (d := foD (some x)) rfl) fun H9 v e9 hv => k H9 v (some x) (fa.trans (Fr.of (e8.trans e9))) ((ata.mono e8).mono e9) hv fok
      · rintro g' H' ⟨o4, o5, o6, o7, o8, rfl, f5, f51, at5⟩
        exact n_lp ⟨_, _, _, _, _, _, _, rfl, f51, at5⟩
    · rintro g' H' ⟨o2, o3, o4, o5, o6, o7, o8, rfl, f2, at2⟩
      exact s_ret e_non fun H9 v e9 hv => k H9 v none (((Fr.of e1).trans f2).trans (Fr.of e9)) (at2.mono e9) hv FoOk.none

/-! ### Finder.look -/
abbrev sFLook : Stmt := inClass (top 28) 6
theorem sc_flook : FnScope ["self", "count", "rows", "state", "found", "turn"] ["self", "count"] (defScope sFLook) := ⟨rfl, rfl, rfl, by decide +kernel, rfl, by decide +kernel, by decide +kernel⟩
def spFLook (P : Program) (w : World) (CF : Addr) : Sp := fun vs H Q _ => ∃ (p d : Addr) (m : Mach) (B : Nat) (fl : Bool) (n : Nat), DTs H vs [.r p, .i n] ∧ (∀ G, FnAt P w H p d CF m fl G) ∧ MachOk m B ∧ n ≤ 139 ∧ ∀ H' v o, Fr [d] H H' → DT H' v (foD o) → FoOk m B fl o → Q v H'
theorem ok_flook {f : Addr} {fd : FuncData} (F : Fun K "look" "Finder.look" sFLook f fd) (T : Tx K mg CR CS CF) (c_turns : Cal P w K mg base "turns" 3 ["machine", "count"] spTurns) (c_Finder_grow : MCal P w K mg base CF "grow" 8 ["self", "rows"] (spFGrow P w CF)) : FnOk P w K mg base CX0 9 f fd ["self", "count"] (spFLook P w CF) := by
  refine F.ok sc_flook (fun vs H Q E h => ?_) (fun cdv A outer s H vs Q E hr h => ?_)
  · obtain ⟨_, _, _, _, _, _, hd, _⟩ := h
    exact hd.length
  · obtain ⟨p, d, m, B, fl, n, hd, fn, mo, hn, k⟩ := h
    have sc := sc_flook
    refine ⟨_, (pss_cons (ps_set (i := 2) sc.nd rfl (Or.inl rfl) (pe_callX c_turns (hr.mono (by decide)) rfl (pa_cons (pe_fld (pv 0) rfl) (pa_cons (pv 1) pa_nil))))
    (pss_cons (ps_for PassesOwn.never rfl (pi_range1 rfl T.range (pa_cons (pe_callB call_len_seq rfl T.len PySem.boot_len (pa_cons (pe_fld (pv 0) rfl) pa_nil)) pa_nil)) (pg_name (i := 3) sc.nd rfl (Or.inr rfl))
      (pss_cons (ps_set (i := 4) sc.nd rfl (Or.inl rfl) (pe_methX (pv 0) T.clF c_Finder_grow (hr.mono (by decide)) (pa_cons (pe_slice sl_list (pe_lc (own := [("turn", 5)]) (g := gName 5) (tt := tTest (tOp rEq (tOp (rIxT K) (tVar 5) (tC (.int 1))) (tVar 3))) rfl sc.nd (pi_list (pv 2)) (blkOk_by (own := [("turn", 5)]) (N := ["self", "count", "rows", "state", "found", "turn"]) (sc := defScope sFLook) (by decide +kernel)) (fun _ _ _ _ _ => (pg_name (i := 5) sc.nd rfl (Or.inl rfl))) (fun _ _ _ _ _ => pts_one (pt_cmpR op_eq (pe_ix ix_tup (pv 5) pe_int (fun _ _ => rfl)) (pv 3) (nomark _))) (fun _ _ _ _ _ => (pv 5))) po_none (po_some (pe_const T.MOST_TURNS rfl))) pa_nil)))
      (pss_one (ps_if (pt_cmpR op_notN (pv 4) pe_non (nomark _))
        (pss_one (ps_ret (pv 4)))
        pss_nil))))
    (pss_one (ps_ret pe_non)))), ?_⟩
    refine q_start hd ?_
    have fn0 := fn []
    obtain ⟨od, hod⟩ := fn0.some
    obtain ⟨op, hop⟩ := fn0.ob.some
    refine q_asgM (m_call (R := fun d' H' => ∃ (l : Addr) (rows : List Tu), d' = .r l ∧ Same H H' ∧ H l = none ∧ LsD H' l (rows.map tuD) ∧ (∀ t ∈ rows, TuOk m t) ∧ rows.length ≤ 200) (a_cons (e_fld 0 fn0.ob T.clF T.nF_machine ndF rfl rfl (e_var rfl)) (a_cons (e_var rfl) a_nil)) fun H1 vs e1 hvs Q2 q => ⟨m, B, n, hvs, mo, hn, fun H2 l rows e2 hl hls hrows hlen => q H2 _ (.r l) (tpOf e2) .r ⟨l, rows, rfl, e1.trans e2, e1.free hl, hls, hrows, hlen⟩⟩) fun H1 d1 t1 ⟨l, rows, hd1, e1, hl, hls, hrows, hlen⟩ => ?_
    subst hd1
    have nld : l ≠ d := (ne_of_none hod hl).symm
    obtain ⟨G, hG⟩ : ∃ G : List Tu, G = (List.range m.length).flatMap fun (s : Nat) => (rows.filter fun t => decide (t.state = (s : Int))).take 30 := ⟨_, rfl⟩
    have hGl : G.length ≤ 120 := by
      rw [hG]
      refine Nat.le_trans (flat_le (n := 30) fun s => by rw [List.length_take]; omega) ?_
      rw [List.length_range]
      have := mo.n4
      omega
    refine q_forR (n := (m.length : Int)) (a_cons ((e_lenT (ds := m.map rowD) (e_fld 0 (fn0.ob.mono e1) T.clF T.nF_machine ndF rfl rfl (e_var rfl))).is (by rw [List.length_map])) a_nil) ⟨by omega, by have := mo.n4; omega⟩ fun H2 e2 => ⟨fun j g' H' => ∃ o3 o4 o5 : Option D, g' = [some (.r p), some (.i n), some (.r l), o3, o4, o5] ∧ Fr [d] H H' ∧ Fr [d] H1 H' ∧ FnAt P w H' p d CF m fl G,
      ⟨_, _, _, rfl, Fr.of (e1.trans e2), Fr.of e2, (fn G).mono (e1.trans e2)⟩, ?_, ?_⟩
    · rintro j g' H' hj ⟨o3, o4, o5, rfl, f3, f31, at3⟩
      refine ⟨_, g_name, ?_⟩
      have hls3 := hls.fr f31 (by simpa using nld)
      have hcomp := l_slN (K := K) (l_lcL (K := K) (te := tVar 2) (tg := gName 5) (t := tTest (tOp rEq (tOp (rIxT K) (tVar 5) (tC (.int 1))) (tVar 3))) (tb := tVar 5) (g := [some (.r p), some (.i n), some (.r l), some (.i (j : Int)), o4, o5]) (vs := [5]) tuD (fun t => decide (t.state = (j : Int))) tuD hls3 (e_var rfl) (lt100000 (by omega)) fun k x H4 e4 hx => ⟨_, gw_name (by decide), t_test (e_eqI (e_ixT (d := .i x.state) rfl (e_var (d := tuD x) rfl) e_int) (e_var rfl)), fun _ => e_var rfl⟩) o_none (o_some (e_int (x := 30)))
      rw [cutD_map, cut_to _ _ (by decide)] at hcomp
      refine q_asgM (m_methL (R := FoM P w CF H' p d m B fl G) at3.ob (by decide +kernel) (e_var rfl) hcomp fun Hb l2 vs eb hl2 hls2 hvs Q2 q => ⟨p, d, l2, m, B, fl, G, _, hvs, at3.mono eb, mo, hls2, ?_, fun t ht => ?_, by rw [List.length_take]; exact Nat.min_le_left _ _, hGl, FoM.foR eb q⟩) fun H5 d5 t5 ⟨o, hd5, f5, at5, fok⟩ => ?_
      · obtain ⟨o2, ho2⟩ := at3.some
        exact (ne_of_none ho2 hl2).symm
      · refine ⟨hrows t (List.mem_filter.mp (List.mem_of_mem_take ht)).1, ?_⟩
        rw [hG]
        exact List.mem_flatMap.mpr ⟨j, List.mem_range.mpr (by omega), ht⟩
      · subst hd5
        have f05 := f3.trans f5
        have f15 := f31.trans f5
        cases o with
        | none => exact s_when (t_test (e_notN (d := .n) (e_var rfl))) (fun hb H8 e8 => Bool.noConfusion (show false = true from hb)) (fun hb H8 e8 => n_lp ⟨_, _, _, rfl, f05.trans (Fr.of e8), f15.trans (Fr.of e8), at5.mono e8⟩)
        | some x =>
          refine s_when (t_test (e_notN (d := foD (some x)) (e_var rfl))) (fun hb H8 e8 => ?_) (fun hb H8 e8 => Bool.noConfusion (show true = false from hb))
          exact s_ret (e_var (d := foD (some x)) rfl) fun H9 v e9 hv => k H9 v (some x) (f05.trans (Fr.of (e8.trans e9))) hv fok
    · rintro g' H' ⟨o3, o4, o5, rfl, f3, f31, at3⟩
      exact s_ret e_non fun H9 v e9 hv => k H9 v none (f3.trans (Fr.of e9)) hv FoOk.none

/-! ### find_shape -/
abbrev sFind : Stmt := top 29
theorem sc_find : FnScope ["machine", "count", "flipped", "found"] ["machine", "count"] (defScope sFind) := ⟨rfl, rfl, rfl, by decide +kernel, rfl, by decide +kernel, by decide +kernel⟩
def FsOk (m : Mach) (B : Nat) (o : Option (Nat × Shp)) : Prop := ∀ n sh, o = some (n, sh) → n ≤ 140 ∧ ShpOk sh m.length B ∧ hasShape m n sh = true
def spFind : Sp := fun vs H Q _ => ∃ (m : Mach) (B n : Nat), DTs H vs [machD m, .i n] ∧ MachOk m B ∧ n ≤ 139 ∧ ∀ H' v o, Same H H' → DT H' v (foD o) → FsOk m B o → Q v H'
theorem ok_find {f : Addr} {fd : FuncData} (F : Fun K "find_shape" "find_shape" sFind f fd) (T : Tx K mg CR CS CF) (c_Finder : CCal P w K mg base "Finder" CF 3 ["self", "machine", "flipped"] (spFInit P w CF)) (c_Finder_look : MCal P w K mg base CF "look" 9 ["self", "count"] (spFLook P w CF)) : FnOk P w K mg base CX0 10 f fd ["machine", "count"] spFind := by
  refine F.ok sc_find (fun vs H Q E h => ?_) (fun cdv A outer s H vs Q E hr h => ?_)
  · obtain ⟨_, _, _, hd, _⟩ := h
    exact hd.length
  · obtain ⟨m, B, n, hd, mo, hn, k⟩ := h
    have sc := sc_find
    refine ⟨_, (pss_cons (ps_for PassesOwn.never rfl (pi_tup (pe_tup (pa_cons pe_bl (pa_cons pe_bl pa_nil)))) (pg_name (i := 2) sc.nd rfl (Or.inl rfl))
      (pss_cons (ps_set (i := 3) sc.nd rfl (Or.inl rfl) (pe_methX (pe_makeX c_Finder (hr.mono (by decide)) rfl (pa_cons (pv 0) (pa_cons (pv 2) pa_nil))) T.clF c_Finder_look (hr.mono (by decide)) (pa_cons (pv 1) pa_nil)))
      (pss_one (ps_if (pt_cmpR op_notN (pv 3) pe_non (nomark _))
        (pss_one (ps_ret (pv 3)))
        pss_nil))))
    (pss_one (ps_ret pe_non))), ?_⟩
    refine q_start hd ?_
    refine q_forT (e_tup (a_cons e_bl (a_cons e_bl a_nil)) (by show 2 ≤ sizeLine; decide)) fun H1 e1 => ⟨fun j g' H' => ∃ o2 o3 : Option D, g' = [some (machD m), some (.i n), o2, o3] ∧ Same H H' ∧ Same H1 H', ⟨_, _, rfl, e1, Same.refl _⟩, fun j g' H' ⟨_, _, _, _, e⟩ => tpOf e, ?_, ?_⟩
    · rintro j x g' H' hx ⟨o2, o3, rfl, e2, e12⟩
      obtain ⟨fl, rfl⟩ : ∃ b, x = D.b b := by
        match j, hx with
        | 0, hx => exact ⟨_, (Option.some.inj hx).symm⟩
        | 1, hx => exact ⟨_, (Option.some.inj hx).symm⟩
        | n + 2, hx => simp at hx
      refine ⟨_, g_name, ?_⟩
      refine q_asgM (m_methM (R := fun d' H2 => ∃ o, d' = foD o ∧ Same H' H2 ∧ FsOk m B o) (m_make (R := fun d' H2 => ∃ p d, d' = .r p ∧ Same H' H2 ∧ H' p = none ∧ H' d = none ∧ ∀ G, FnAt P w H2 p d CF (sidedM m fl) fl G) (a_cons (e_var rfl) (a_cons (e_var rfl) a_nil)) fun H3 p vs e3 hp ob hvs Q2 q => ⟨p, m, B, fl, hvs, ob, mo, fun H4 d f4 hd4 fn => q H4 f4.tp ⟨p, d, rfl, f4.same e3 (fun b hb => by rw [List.mem_singleton.mp hb]; exact hp), hp, e3.free hd4, fn⟩⟩)
        fun d3 H3 t3 ⟨p, d, hd3, e3, hp, hdn, fn⟩ => ⟨NF, p, _, hd3, (fn []).ob, by decide +kernel, a_cons (e_var rfl) a_nil, fun H4 vs e4 hvs Q2 q => ⟨p, d, sidedM m fl, B, fl, n, hvs, fun G => (fn G).mono e4, mo.sided fl, hn, fun H5 v o f5 hv fok => q H5 v _ f5.tp hv ⟨o, rfl, f5.same (e3.trans e4) (fun b hb => by rw [List.mem_singleton.mp hb]; exact hdn), fun n' sh ho => ?_⟩⟩⟩) fun H5 d5 t5 ⟨o, hd5, e5, fok⟩ => ?_
      · obtain ⟨q1, q2, q3, q4⟩ := fok n' sh ho
        rw [sided_len] at q3
        refine ⟨q1, q3, ?_⟩
        rw [hasShape_on, q2]
        exact q4
      · subst hd5
        cases o with
        | none => exact s_when (t_test (e_notN (d := .n) (e_var rfl))) (fun hb H8 e8 => Bool.noConfusion (show false = true from hb)) (fun hb H8 e8 => n_lp ⟨_, _, rfl, (e2.trans e5).trans e8, (e12.trans e5).trans e8⟩)
        | some x =>
          refine s_when (t_test (e_notN (d := foD (some x)) (e_var rfl))) (fun hb H8 e8 => ?_) (fun hb H8 e8 => Bool.noConfusion (show true = false from hb))
          exact s_ret (e_var (d := foD (some x)) rfl) fun H9 v e9 hv => k H9 v (some x) (((e2.trans e5).trans e8).trans e9) hv fok
    · rintro g' H' ⟨o2, o3, rfl, e2, e12⟩
      exact s_ret e_non fun H9 v e9 hv => k H9 v none (e2.trans e9) hv fun n sh h => nomatch h
end
end Tac

namespace Tac
open PySem PySem.Spec PyProof.Rows L2
section
variable {K : PySem.W.Frag} {g : Ga} {H H' : Hp} {ta tb tc te : TE} {t u : TT} {d e : D} {R : D → Hp → Prop} {E : Ends} {tz tu tw : TS} {tg : TG} {tl tr : TA}
/-- an if whose ways meet again -/
theorem q_ifR {b : Bool} (J : Ga → Hp → Prop) (h : EvT t g H b) (k : ∀ g' H1, J g' H1 → W tz E g' H1)
    (h1 : b = true → ∀ H1, Same H H1 → (∀ g' H2, J g' H2 → N { E with nx := tz E } g' H2) → W tu { E with nx := tz E } g H1)
    (h2 : b = false → ∀ H1, Same H H1 → (∀ g' H2, J g' H2 → N { E with nx := tz E } g' H2) → W tw { E with nx := tz E } g H1) : W (tSeq (tIfS t tu tw) tz) E g H :=
  q_if h (fun hb H1 e => h1 hb H1 e k) (fun hb H1 e => h2 hb H1 e k)
/-- a list with these contents -/
def EvQ (te : TE) (g : Ga) (H : Hp) (ds : List D) : Prop := ∀ σ H1, Same H H1 → Sl H1 σ g → ∀ Q : VK, (∀ H2 p vs, Same H1 H2 → H2 p = some (.lst vs) → DTs H2 vs ds → Q (.ref p) H2) → te σ H1 Q
theorem EvL.q {ds : List D} (h : EvL te g H ds) : EvQ te g H ds := fun σ H1 e s Q q => h σ H1 e s Q fun H2 p vs e2 _ h2 hd => q H2 p vs e2 h2 hd
theorem l_q {l : Addr} {ds : List D} (hl : LsD H l ds) (ha : Ev te g H (.r l)) : EvQ te g H ds := fun σ H1 e s Q q => ha σ H1 e s _ fun H2 v e2 hv => by
  cases hv.r_inv
  obtain ⟨vs, h1, h2⟩ := (hl.mono e).mono e2
  exact q H2 l vs e2 h1 h2
theorem EvQ.is {ds es : List D} (h : EvQ te g H ds) (e : ds = es) : EvQ te g H es := by rw [← e]; exact h
theorem l_cat {ds es : List D} (hz : ds.length + es.length ≤ sizeLine) (ha : EvQ ta g H ds) (hb : EvQ tb g H es) : EvL (tOp rCat ta tb) g H (ds ++ es) := fun σ H1 e s Q q =>
  ha σ H1 e s _ fun H2 p vs e2 h2 hd => hb σ H2 (e.trans e2) (s.mono (tpOf e2)) _ fun H3 p3 ws e3 h3 hd3 =>
    ⟨p, p3, vs, ws, rfl, rfl, e3 _ _ h2, h3, by rw [hd.length, hd3.length]; exact hz, fun l hl => q _ l _ ((e2.trans e3).trans (Same.new hl)) ((e2.trans e3).free hl) upd_same (((hd.mono (tpOf e3)).append hd3).mono (tpOf (Same.new hl)))⟩
theorem l_rep {ds : List D} {k : Int} (hk : 0 ≤ k ∧ k ≤ 1000) (hz : ds.length * k.toNat ≤ sizeLine) (ha : EvQ ta g H ds) (hb : Ev tb g H (.i k)) : EvL (tOp rRep ta tb) g H (List.replicate k.toNat ds).flatten := fun σ H1 e s Q q =>
  ha σ H1 e s _ fun H2 p vs e2 h2 hd => hb σ H2 (e.trans e2) (s.mono (tpOf e2)) _ fun H3 v e3 hv =>
    ⟨p, k, vs, rfl, hv.i_inv, e3 _ _ h2, by omega, by omega, by rw [hd.length]; exact hz, fun l hl => q _ l _ ((e2.trans e3).trans (Same.new hl)) ((e2.trans e3).free hl) upd_same (((hd.mono (tpOf e3)).flat _).mono (tpOf (Same.new hl)))⟩
theorem m_lstL {ds es : List D} (hz : es.length < 1000) (ha : EvL te g H ds) (hr : EvA tr g H es) : EvM (tLst (tCons te tr)) g H fun d' H2 => ∃ S L, d' = .r S ∧ Same H H2 ∧ H S = none ∧ H L = none ∧ S ≠ L ∧ LsD H2 L ds ∧ LsD H2 S (.r L :: es) := fun σ s Q q =>
  ha σ H (Same.refl _) s _ fun H2 p vs e2 hn h2 hd => hr σ H2 e2 (s.mono (tpOf e2)) _ fun H3 ws e3 hs => by
    refine ⟨?_, fun l hl => ?_⟩
    · show (V.ref p :: ws).length ≤ sizeLine
      rw [List.length_cons, hs.length, sizeLine_eq]; omega
    · have e4 : Same H3 (upd H3 l (.lst (.ref p :: ws))) := Same.new hl
      have nlp : l ≠ p := (ne_of_none (e3 _ _ h2) hl).symm
      exact q _ _ (.r l) (tpOf ((e2.trans e3).trans e4)) .r ⟨l, p, rfl, (e2.trans e3).trans e4, (e2.trans e3).free hl, hn, nlp, ⟨vs, e4 _ _ (e3 _ _ h2), hd.mono (tpOf (e3.trans e4))⟩, ⟨_, upd_same, .cons .r (hs.mono (tpOf e4))⟩⟩
/-- list(xs), xs the caller's -/
theorem l_listS {a : Addr} {ns : List Int} (hl : SqL K H a (ns.map V.int)) (ha : Ev ta g H (.r a)) : EvL (tCB (rLstOf K) (tCons ta tNil)) g H (ns.map D.i) := fun σ H1 e s Q q =>
  ha σ H1 e s _ fun H2 v e2 hv => by
    cases hv.r_inv
    exact ⟨a, _, rfl, .inl ((e.trans e2).seq hl), fun l hn => q _ l _ (e2.trans (Same.new hn)) (e2.free hn) upd_same (DTs.ints ns)⟩
theorem s_forS {a : Addr} {ns : List Int} (hls : SqL K H a (ns.map V.int)) (hl : Ev te g H (.r a)) (h : ∀ H1, Same H H1 → ∃ J : Nat → Ga → Hp → Prop, J 0 g H1 ∧ (∀ k g' H', J k g' H' → Same H1 H') ∧
    (∀ k x g' H', ns[k]? = some x → J k g' H' → ∃ g2, Gs tg g' H' (.i x) g2 ∧ W tu (lp E (J (k + 1))) g2 H') ∧ ∀ g' H', J ns.length g' H' → N E g' H') : W (tFor (iList K te) tg tu) E g H := fun σ s =>
  hl σ H (Same.refl _) s _ fun H1 v e1 hv => by
    have h1 := e1.seq hls
    obtain ⟨J, j0, jt, jn, jd⟩ := h H1 e1
    refine ⟨a, hv.r_inv, ⟨_, h1⟩, for_list (K := K) (a := a) (xs := ns.map V.int) (fun k => Nx (J k)) ⟨g, s.mono (tpOf e1), j0⟩ (fun k σ' H' _ ⟨g', _, hj⟩ => (jt k g' H' hj).seq h1) ?_ ?_⟩
    · rintro k x σ' H' hx ⟨g', s', hj⟩
      obtain ⟨y, hy, rfl⟩ := getElem?_map_inv hx
      obtain ⟨g2, hg, hw⟩ := jn k y g' H' hy hj
      exact hg σ' _ s' .i _ fun σ2 s2 => hw σ2 s2
    · rintro σ' H' ⟨g', s', hj⟩
      rw [List.length_map] at hj
      exact jd g' H' hj σ' s'
theorem q_forS {a : Addr} {ns : List Int} (hls : SqL K H a (ns.map V.int)) (hl : Ev te g H (.r a)) (h : ∀ H1, Same H H1 → ∃ J : Nat → Ga → Hp → Prop, J 0 g H1 ∧ (∀ k g' H', J k g' H' → Same H1 H') ∧
    (∀ k x g' H', ns[k]? = some x → J k g' H' → ∃ g2, Gs tg g' H' (.i x) g2 ∧ W tu (lp { E with nx := tz E } (J (k + 1))) g2 H') ∧ ∀ g' H', J ns.length g' H' → W tz E g' H') : W (tSeq (tFor (iList K te) tg tu) tz) E g H := s_forS (E := { E with nx := tz E }) hls hl h

/-! ### a loop over a dict's keys; the dict is locked meanwhile -/
abbrev lkH (H : Hp) (d : Addr) (od : Obj) (m : List (Int × Int)) : Hp := upd H d (.frz od (.dK (kvI m)))
abbrev lkE (E : Ends) (d : Addr) (od : Obj) (m : List (Int × Int)) : Ends := ⟨fun σ' H' => H' d = some (.frz od (.dK (kvI m))) ∧ E.nx σ' (upd H' d (.dK (kvI m))), fun v H' => H' d = some (.frz od (.dK (kvI m))) ∧ E.rt v (upd H' d (.dK (kvI m))), fun σ' H' => H' d = some (.frz od (.dK (kvI m))) ∧ E.bk σ' (upd H' d (.dK (kvI m))), fun σ' H' => H' d = some (.frz od (.dK (kvI m))) ∧ E.ct σ' (upd H' d (.dK (kvI m)))⟩
theorem lk_open {d : Addr} {od : Obj} {m : List (Int × Int)} (hd : DcD H d m) (e : Same (lkH H d od m) H') : H' d = some (.frz od (.dK (kvI m))) ∧ Same H (upd H' d (.dK (kvI m))) := by
  have hf := e _ _ (upd_same (H := H) (a := d) (o := .frz od (.dK (kvI m))))
  refine ⟨hf, fun b o hb => ?_⟩
  by_cases z : b = d
  · subst z; rw [hd] at hb; cases hb; exact upd_same
  · rw [upd_ne z]; exact e _ _ (by show upd H d _ b = some o; rw [upd_ne z]; exact hb)
theorem lk_tp {d : Addr} {od : Obj} {m : List (Int × Int)} (hd : DcD H d m) : Tp H (lkH H d od m) := Tp.upd fun xs z => by rw [hd] at z; cases z
theorem s_forK {d : Addr} {m : List (Int × Int)} (hd : DcD H d m) (hl : ∀ od, Ev te g (lkH H d od m) (.r d)) (h : ∀ od, ∃ J : Nat → Ga → Hp → Prop, (∀ H1, Same (lkH H d od m) H1 → J 0 g H1) ∧ (∀ k g' H', J k g' H' → Same (lkH H d od m) H') ∧
    (∀ k x g' H', (m.map (·.1))[k]? = some x → J k g' H' → ∃ g2, Gs tg g' H' (.i x) g2 ∧ W tu (lp (lkE E d od m) (J (k + 1))) g2 H') ∧ ∀ g' H', J m.length g' H' → N E g' (upd H' d (.dK (kvI m)))) : W (tLock (tFor (iKeys te) tg tu)) E g H := fun σ s => by
  refine ⟨d, _, hd, True.intro, fun od => ?_⟩
  obtain ⟨J, j0, jt, jn, jd⟩ := h od
  refine hl od σ _ (Same.refl _) (s.mono (lk_tp hd)) _ fun H1 v e1 hv => ?_
  have st : ∀ k g' H', J k g' H' → H' d = some (.frz od (.dK (kvI m))) := fun k g' H' hj => (lk_open hd (jt k g' H' hj)).1
  refine ⟨d, od, hv.r_inv, .inl ⟨kvI m, (lk_open hd e1).1, ?_⟩⟩
  refine ⟨fun i mm σ' H' => mm = m.length - i ∧ i ≤ m.length ∧ Nx (J i) σ' H', ⟨_, rfl, Nat.zero_le _, g, (s.mono (lk_tp hd)).mono (tpOf e1), j0 H1 e1⟩, ?_⟩
  have hkl : (kvI m).length = m.length := by unfold kvI; rw [List.length_map]
  rintro i mm σ' H' ⟨rfl, hi, g', s', hj⟩
  have hfz := st i g' H' hj
  by_cases hlt : i < m.length
  · refine .inr ⟨⟨hfz, by rw [hkl]; exact hlt⟩, Nx (J (i + 1)), fun σ2 H2 p => ⟨m.length - (i + 1), by omega, rfl, hlt, p⟩, ?_⟩
    rintro x H2 ⟨rfl, k, w, hk, ex⟩
    unfold kvI at hk
    obtain ⟨y, hy, ey⟩ := getElem?_map_inv hk
    cases ey
    obtain ⟨g2, hg, hw⟩ := jn i y.1 g' _ (by rw [List.getElem?_map, hy]; rfl) hj
    rw [ex]
    exact hg σ' _ s' .i _ fun σ2 s2 => hw σ2 s2
  · have e' : i = m.length := by omega
    subst e'
    refine .inl ⟨⟨hfz, by rw [hkl]; exact Nat.le_refl _⟩, hfz, ?_⟩
    exact jd g' H' hj σ' (s'.mono (Tp.upd fun xs z => by rw [hfz] at z; cases z))
theorem q_forK {d : Addr} {m : List (Int × Int)} (hd : DcD H d m) (hl : ∀ od, Ev te g (lkH H d od m) (.r d)) (h : ∀ od, ∃ J : Nat → Ga → Hp → Prop, (∀ H1, Same (lkH H d od m) H1 → J 0 g H1) ∧ (∀ k g' H', J k g' H' → Same (lkH H d od m) H') ∧
    (∀ k x g' H', (m.map (·.1))[k]? = some x → J k g' H' → ∃ g2, Gs tg g' H' (.i x) g2 ∧ W tu (lp (lkE { E with nx := tz E } d od m) (J (k + 1))) g2 H') ∧ ∀ g' H', J m.length g' H' → W tz E g' (upd H' d (.dK (kvI m)))) : W (tSeq (tLock (tFor (iKeys te) tg tu)) tz) E g H := s_forK (E := { E with nx := tz E }) hd hl h

/-! ### the law's stream: expressions that draw from it -/
/-- the stream at S, its cells at L -/
def StAt (H : Hp) (S L : Addr) : Prop := S ≠ L ∧ ∃ (cells : List Int) (p : Int) (k : Nat) (x : Int), LsD H S [.r L, .i p, .i (k : Int), .i x] ∧ LsD H L (cells.map D.i)
theorem StAt.fr {S L : Addr} {Z : List Addr} (h : StAt H S L) (f : Fr Z H H') (n1 : S ∉ Z) (n2 : L ∉ Z) : StAt H' S L := let ⟨a, c, p, k, x, h1, h2⟩ := h; ⟨a, c, p, k, x, h1.fr f n1, h2.fr f n2⟩
theorem StAt.mono {S L : Addr} (h : StAt H S L) (e : Same H H') : StAt H' S L := h.fr (Z := []) (Fr.of e) (by simp) (by simp)
theorem StAt.some {S L : Addr} (h : StAt H S L) : (∃ o, H S = some o) ∧ ∃ o, H L = some o := let ⟨_, _, _, _, _, ⟨_, h1, _⟩, ⟨_, h2, _⟩⟩ := h; ⟨⟨_, h1⟩, _, h2⟩
def EvI (te : TE) (g : Ga) (H : Hp) (S L : Addr) (X : Int → Prop) : Prop := StAt H S L → ∀ σ, Sl H σ g → ∀ Q : VK, (∀ H2 i, Fr [S] H H2 → StAt H2 S L → X i → Q (.int i) H2) → te σ H Q
variable {S L : Addr} {X Y Z : Int → Prop}
theorem i_ev {x : Int} (h : Ev te g H (.i x)) : EvI te g H S L (· = x) := fun st σ s Q q => h σ H (Same.refl _) s _ fun H2 v e2 hv => by
  cases hv.i_inv
  exact q H2 x (Fr.of e2) (st.mono e2) rfl
theorem i_opL {c : Int} {f : Int → Int → Int} (h : EvI te g H S L X) : EvI (tOp (rI0 fun i j => .int (f i j)) (tC (.int c)) te) g H S L fun i => ∃ j, X j ∧ i = f c j := fun st σ s Q q => h st σ s _ fun H2 i f2 s2 hx => ⟨c, i, rfl, rfl, q H2 _ f2 s2 ⟨i, hx, rfl⟩⟩
theorem i_opR {c : Int} {f : Int → Int → Int} (h : EvI te g H S L X) : EvI (tOp (rI0 fun i j => .int (f i j)) te (tC (.int c))) g H S L fun i => ∃ j, X j ∧ i = f j c := fun st σ s Q q => h st σ s _ fun H2 i f2 s2 hx => ⟨i, c, rfl, rfl, q H2 _ f2 s2 ⟨i, hx, rfl⟩⟩
theorem i_mulL {c : Int} (hc : -(2 ^ 64) < c ∧ c < 2 ^ 64) (h : EvI te g H S L X) : EvI (tOp (rI CMul fun i j => .int (i * j)) (tC (.int c)) te) g H S L fun i => ∃ j, X j ∧ i = c * j := fun st σ s Q q => h st σ s _ fun H2 i f2 s2 hx => ⟨c, i, rfl, rfl, .inl hc, q H2 _ f2 s2 ⟨i, hx, rfl⟩⟩
/-- an int, then a draw -/
theorem i_op {a : Int} {f : Int → Int → Int} (ha : Ev ta g H (.i a)) (h : ∀ H1, Same H H1 → EvI te g H1 S L X) : EvI (tOp (rI0 fun i j => .int (f i j)) ta te) g H S L fun i => ∃ j, X j ∧ i = f a j := fun st σ s Q q => ha σ H (Same.refl _) s _ fun H1 v e1 hv => by
  cases hv.i_inv
  exact h H1 e1 (st.mono e1) σ (s.mono (tpOf e1)) _ fun H2 i f2 s2 hx => ⟨a, i, rfl, rfl, q H2 _ ((Fr.of e1).trans f2) s2 ⟨i, hx, rfl⟩⟩
theorem EvI.m (st : StAt H S L) (h : EvI te g H S L X) : EvM te g H fun d' H2 => ∃ i, d' = .i i ∧ Fr [S] H H2 ∧ StAt H2 S L ∧ X i := fun σ s Q q => h st σ s Q fun H2 i f2 s2 hx => q H2 _ (.i i) f2.tp .i ⟨i, rfl, f2, s2, hx⟩
/-- [..][a draw] -/
theorem i_ixN {ds : List D} (hz : ds.length ≤ sizeLine) (hl : EvA tl g H ds) (h : ∀ H1, Same H H1 → EvI te g H1 S L X) (hx : ∀ i, X i → ∃ j, atI ds i = some (.i j) ∧ Y j) : EvI (tOp (rIxL K) (tLst tl) te) g H S L Y := fun st σ s Q q =>
  l_lst hl hz σ H (Same.refl _) s _ fun H1 p vs e1 hn h1 hd => h H1 e1 (st.mono e1) σ (s.mono (tpOf e1)) _ fun H2 i f2 s2 hX => by
    obtain ⟨j, hj, hY⟩ := hx i hX
    obtain ⟨z, h3, h4⟩ := (hd.mono f2.tp).atI hj
    cases h4.i_inv
    have npS : p ≠ S := by
      obtain ⟨o, ho⟩ := st.some.1
      exact (ne_of_none ho hn).symm
    exact ⟨p, vs, i, _, rfl, rfl, SqL.of (f2.one h1 npS), h3, q H2 j ((Fr.of e1).trans f2) s2 hY⟩
/-- a tuple of three that draw -/
theorem i_tup3 {t1 t2 t3 : TE} (st : StAt H S L) (h1 : EvI t1 g H S L X) (h2 : ∀ H1, Fr [S] H H1 → EvI t2 g H1 S L Y) (h3 : ∀ H1, Fr [S] H H1 → EvI t3 g H1 S L Z) : EvM (tTup (tCons t1 (tCons t2 (tCons t3 tNil)))) g H fun d' H2 => ∃ i j k, d' = .t [.i i, .i j, .i k] ∧ Fr [S] H H2 ∧ StAt H2 S L ∧ X i ∧ Y j ∧ Z k := fun σ s Q q =>
  h1 st σ s _ fun H1 i f1 s1 hx => h2 H1 f1 s1 σ (s.mono f1.tp) _ fun H2 j f2 s2 hy => h3 H2 (f1.trans f2) s2 σ (s.mono (f1.trans f2).tp) _ fun H3 k f3 s3 hz => by
    refine ⟨by show 3 ≤ sizeLine; decide, fun p hp => ?_⟩
    have e4 : Same H3 (upd H3 p (.tup [.int i, .int j, .int k])) := Same.new hp
    have f13 := (f1.trans f2).trans f3
    exact q _ _ (.t [.i i, .i j, .i k]) (f13.trans (Fr.of e4)).tp (DT.new hp (.cons .i (.cons .i (.cons .i .nil)))) ⟨i, j, k, rfl, f13.trans (Fr.of e4), s3.mono e4, hx, hy, hz⟩
/-- a test of a draw -/
theorem i_eq0 {c : Int} (st : StAt H S L) (h : EvI te g H S L X) : EvTM (tTest (tOp rEq te (tC (.int c)))) g H fun b H2 => ∃ i, b = decide (i = c) ∧ Fr [S] H H2 ∧ StAt H2 S L ∧ X i := fun σ s Q q => h st σ s _ fun H2 i f2 s2 hx => ⟨rfl, decide (i = c), by rw [show decide (V.int i = V.int c) = decide (i = c) by by_cases h : i = c <;> simp [h]], q H2 _ f2.tp ⟨i, rfl, f2, s2, hx⟩⟩
end
section
variable {P : Program} {w : World} {K : PySem.W.Frag} {mg : Str → Option Value} {base : Heap} {CR CS CF : Addr}

/-! ### _law_stream -/
abbrev sLStream : Stmt := top 31
theorem sc_lstream : FnScope ["_law_script", "_law_mixed", "_law_cell"] ["_law_script"] (defScope sLStream) := ⟨rfl, rfl, rfl, by decide +kernel, rfl, by decide +kernel, by decide +kernel⟩
def spLStream (K : PySem.W.Frag) : Sp := fun vs H Q _ => ∃ (a : Addr) (ns : List Int), DTs H vs [.r a] ∧ SqL K H a (ns.map V.int) ∧ ∀ H' S L, Same H H' → H S = none → H L = none → StAt H' S L → Q (.ref S) H'
theorem ok_lstream {f : Addr} {fd : FuncData} (F : Fun K "_law_stream" "_law_stream" sLStream f fd) (T : Tx K mg CR CS CF) : FnOk P w K mg base CX0 1 f fd ["_law_script"] (spLStream K) := by
  refine F.ok sc_lstream (fun vs H Q E h => ?_) (fun cdv A outer s H vs Q E hr h => ?_)
  · obtain ⟨_, _, hd, _⟩ := h
    exact hd.length
  · obtain ⟨a, ns, hd, hS, k⟩ := h
    have sc := sc_lstream
    refine ⟨_, (pss_cons (ps_set (i := 1) sc.nd rfl (Or.inl rfl) pe_int)
    (pss_cons (ps_for PassesOwn.never rfl (pi_list (pv 0)) (pg_name (i := 2) sc.nd rfl (Or.inl rfl))
      (pss_one (ps_set (i := 1) sc.nd rfl (Or.inl rfl) (pe_op op_mod (pe_callTy call_int1 rfl T.int (by decide +kernel) (pa_cons (pe_op op_add (pe_op op_add (pe_op op_mul (pv 1) pe_int) (pe_op op_mod (pe_callTy call_int1 rfl T.int (by decide +kernel) (pa_cons (pv 2) pa_nil)) pe_int)) pe_int) pa_nil)) pe_int))))
    (pss_one (ps_ret (pe_lst (pa_cons (pe_callTy call_list_of rfl T.list (by decide +kernel) (pa_cons (pv 0) pa_nil)) (pa_cons pe_int (pa_cons pe_int (pa_cons (pv 1) pa_nil))))))))), ?_⟩
    refine q_start hd ?_
    refine q_asg e_int fun H1 e1 => ?_
    refine q_forS (e1.seq hS) (e_var rfl) fun H2 e2 => ⟨fun j g' H' => ∃ (x : Int) (o2 : Option D), g' = [some (.r a), some (.i x), o2] ∧ Same H2 H', ⟨_, _, rfl, Same.refl _⟩, fun j g' H' ⟨_, _, _, e⟩ => e, ?_, ?_⟩
    · rintro j c g' H' hc ⟨x, o2, rfl, e3⟩
      refine ⟨_, g_name, ?_⟩
      exact s_asg (e_mod (by decide) (e_int1 (e_add (e_add (e_mul (.inr ⟨by decide, by decide⟩) (e_var rfl) e_int) (e_mod (by decide) (e_int1 (e_var rfl)) e_int)) e_int)) e_int) fun H4 e4 => n_lp ⟨_, _, rfl, e3.trans e4⟩
    · rintro g' H' ⟨x, o2, rfl, e3⟩
      refine s_retM (m_lstL (show ([.i 0, .i 0, .i x] : List D).length < 1000 by show 3 < 1000; decide) (l_listS ((e1.trans (e2.trans e3)).seq hS) (e_var rfl)) (a_cons e_int (a_cons e_int (a_cons (e_var rfl) a_nil)))) fun H4 v d4 t4 hv ⟨S, L, hd4, e4, hn1, hn2, hne, hL, hSl⟩ => ?_
      subst hd4
      cases hv.r_inv
      have e03 := e1.trans (e2.trans e3)
      exact k H4 S L (e03.trans e4) (e03.free hn1) (e03.free hn2) ⟨hne, ns, 0, 0, x, hSl, hL⟩

/-! ### _law_draw -/
abbrev sLDraw : Stmt := top 32
theorem sc_ldraw : FnScope ["_law_stream_here", "_law_many", "_law_value"] ["_law_stream_here", "_law_many"] (defScope sLDraw) := ⟨rfl, rfl, rfl, by decide +kernel, rfl, by decide +kernel, by decide +kernel⟩
def spLDraw : Sp := fun vs H Q _ => ∃ (S L : Addr) (n : Int), DTs H vs [.r S, .i n] ∧ StAt H S L ∧ (1 ≤ n ∧ n ≤ 1000) ∧ ∀ H' v, Fr [S] H H' → StAt H' S L → 0 ≤ v → v < n → Q (.int v) H'
theorem ok_ldraw {f : Addr} {fd : FuncData} (F : Fun K "_law_draw" "_law_draw" sLDraw f fd) (T : Tx K mg CR CS CF) : FnOk P w K mg base CX0 1 f fd ["_law_stream_here", "_law_many"] spLDraw := by
  refine F.ok sc_ldraw (fun vs H Q E h => ?_) (fun cdv A outer s H vs Q E hr h => ?_)
  · obtain ⟨_, _, _, hd, _⟩ := h
    exact hd.length
  · obtain ⟨S, L, n, hd, st, ⟨n1, n2⟩, k⟩ := h
    have sc := sc_ldraw
    refine ⟨_, (pss_cons (ps_if (PW.pt (pw_and (pt_cmpR op_eq (pe_ix ix_list (pv 0) pe_int (fun _ _ => rfl)) pe_int (nomark _)) (pw_and1 (pt_cmpR op_lt (pe_ix ix_list (pv 0) pe_int (fun _ _ => rfl)) (pe_callB call_len_seq rfl T.len PySem.boot_len (pa_cons (pe_ix ix_list (pv 0) pe_int (fun _ _ => rfl)) pa_nil)) (nomark _)))))
      (pss_cons (ps_asg (pe_callB call_abs rfl T.abs (by decide +kernel) (pa_cons (pe_callTy call_int1 rfl T.int (by decide +kernel) (pa_cons (pe_ix ix_list (pe_ix ix_list (pv 0) pe_int (fun _ _ => rfl)) (pe_ix ix_list (pv 0) pe_int (fun _ _ => rfl)) (fun _ _ => rfl)) pa_nil)) pa_nil)) (pg_sub (pv 0) pe_int set_list))
      (pss_one (ps_asg (pe_op op_add (pe_ix ix_list (pv 0) pe_int (fun _ _ => rfl)) pe_int) (pg_sub (pv 0) pe_int set_list))))
      pss_nil)
    (pss_cons (ps_if (pt_cmpR op_eq (pe_ix ix_list (pv 0) pe_int (fun _ _ => rfl)) pe_int (nomark _))
      (pss_cons (ps_asg (pe_op op_mod (pe_callTy call_int1 rfl T.int (by decide +kernel) (pa_cons (pe_op op_add (pe_op op_mul (pe_ix ix_list (pv 0) pe_int (fun _ _ => rfl)) pe_int) pe_int) pa_nil)) pe_int) (pg_sub (pv 0) pe_int set_list))
      (pss_one (ps_ret (pe_op op_mod (pe_callTy call_int1 rfl T.int (by decide +kernel) (pa_cons (pe_op op_fdiv (pe_ix ix_list (pv 0) pe_int (fun _ _ => rfl)) pe_int) pa_nil)) (pv 1)))))
      pss_nil)
    (pss_cons (ps_set (i := 2) sc.nd rfl (Or.inl rfl) (pe_op op_mod (pe_callTy call_int1 rfl T.int (by decide +kernel) (pa_cons (pe_ix ix_list (pv 0) pe_int (fun _ _ => rfl)) pa_nil)) (pv 1)))
    (pss_cons (ps_asg (pe_op op_fdiv (pe_ix ix_list (pv 0) pe_int (fun _ _ => rfl)) (pv 1)) (pg_sub (pv 0) pe_int set_list))
    (pss_one (ps_ret (pv 2))))))), ?_⟩
    refine q_start hd ?_
    have hne := st.1
    obtain ⟨_, cells, p, i, x, hS, hL⟩ := id st
    refine q_ifR (fun g' H' => g' = [some (.r S), some (.i n), none] ∧ Fr [S] H H' ∧ StAt H' S L) (t_and (t_test (e_eqI (e_ixL (d := .i p) (i := 1) hS rfl (e_var rfl) e_int) e_int)) fun _ => (t_test (e_lt (e_ixL (d := .i (i : Int)) (i := 2) hS rfl (e_var rfl) e_int) (e_lenL hL (e_ixL (d := .r L) (i := 0) hS rfl (e_var rfl) e_int))))) ?_ (fun hb H1 e1 kk => ?_) (fun hb H1 e1 kk => ?_)
    · rintro g' H1 ⟨rfl, f1, st1⟩
      obtain ⟨_, cells, p, i, x, hS, hL⟩ := id st1
      refine q_when (t_test (e_eqI (e_ixL (d := .i p) (i := 1) hS rfl (e_var rfl) e_int) e_int)) (fun hb H2 e2 => ?_) (fun hb H2 e2 => ?_)
      · have hS2 := hS.mono e2
        refine q_setL hS2 (x := 3) (j := 3) rfl (e_mod (by decide) (e_int1 (e_add (e_mul (.inr ⟨by decide, by decide⟩) (e_ixL (d := .i x) (i := 3) hS2 rfl (e_var rfl) e_int) e_int) e_int)) e_int) (e_var rfl) e_int fun H3 f3 hS3 => ?_
        refine s_ret (e_mod (by omega) (e_int1 (e_fdiv ⟨by decide, by decide⟩ (e_ixL (i := 3) hS3 rfl (e_var rfl) e_int) e_int)) (e_var rfl)) fun H4 v e4 hv => ?_
        cases hv.i_inv
        exact k H4 _ ((f1.trans (Fr.of e2)).trans (f3.trans (Fr.of e4))) ⟨hne, cells, p, i, _, hS3.mono e4, ((hL.mono e2).fr f3 (by simpa using hne.symm)).mono e4⟩ (Int.emod_nonneg _ (by omega)) (Int.emod_lt_of_pos _ (by omega))
      · have hS2 := hS.mono e2
        refine q_asg (e_mod (by omega) (e_int1 (e_ixL (d := .i p) (i := 1) hS2 rfl (e_var rfl) e_int)) (e_var rfl)) fun H3 e3 => ?_
        have hS3 := hS2.mono e3
        refine q_setL hS3 (x := 1) (j := 1) rfl (e_fdiv ⟨by omega, by omega⟩ (e_ixL (d := .i p) (i := 1) hS3 rfl (e_var rfl) e_int) (e_var rfl)) (e_var rfl) e_int fun H4 f4 hS4 => ?_
        refine s_ret (e_var rfl) fun H5 v e5 hv => ?_
        cases hv.i_inv
        exact k H5 _ ((f1.trans (Fr.of (e2.trans e3))).trans (f4.trans (Fr.of e5))) ⟨hne, cells, _, i, x, hS4.mono e5, (((hL.mono e2).mono e3).fr f4 (by simpa using hne.symm)).mono e5⟩ (Int.emod_nonneg _ (by omega)) (Int.emod_lt_of_pos _ (by omega))
    · have q := Bool.and_eq_true_iff.mp hb
      have hi : (i : Int) < (cells.length : Int) := by
        have := of_decide_eq_true q.2
        rw [List.length_map] at this
        exact this
      have hS1 := hS.mono e1
      have hL1 := hL.mono e1
      refine q_setL hS1 (x := 1) (j := 1) rfl (e_abs (e_int1 (e_ixL (d := .i (cells.getD i 0)) hL1 (atI_int (by omega)) (e_ixL (d := .r L) (i := 0) hS1 rfl (e_var rfl) e_int) (e_ixL (d := .i (i : Int)) (i := 2) hS1 rfl (e_var rfl) e_int)))) (e_var rfl) e_int fun H2 f2 hS2 => ?_
      refine s_setL hS2 (x := 2) (j := 2) rfl (e_add (e_ixL (d := .i (i : Int)) (i := 2) hS2 rfl (e_var rfl) e_int) e_int) (e_var rfl) e_int fun H3 f3 hS3 => kk _ H3 ⟨rfl, (Fr.of e1).trans (f2.trans f3), hne, cells, (if cells.getD i 0 < 0 then -cells.getD i 0 else cells.getD i 0), i + 1, x, ?_, (hL1.fr f2 (by simpa using hne.symm)).fr f3 (by simpa using hne.symm)⟩
      rw [show ((i + 1 : Nat) : Int) = (i : Int) + 1 by omega]
      exact hS3
    · exact fun σ s => kk _ H1 ⟨rfl, Fr.of e1, st.mono e1⟩ σ s
theorem i_draw {H : Hp} {g : Ga} {S L : Addr} {n : Int} {tl : TA} (hn : 1 ≤ n ∧ n ≤ 1000) (ha : EvA tl g H [.r S, .i n]) : EvI (tCall spLDraw [] E0 tl) g H S L fun v => 0 ≤ v ∧ v < n := fun st σ s Q q =>
  ha σ H (Same.refl _) s _ fun H2 vs e2 hs => by
    rw [List.append_nil]
    exact ⟨S, L, n, hs, st.mono e2, hn, fun H3 v f3 s3 h0 h1 => q H3 v ((Fr.of e2).trans f3) s3 ⟨h0, h1⟩⟩
end
end Tac

namespace Tac
open PySem PySem.Spec PyProof.Rows L2
section
variable {K : PySem.W.Frag} {g : Ga} {H H' : Hp} {ta tb tc te : TE} {t u : TT} {d e : D} {R : D → Hp → Prop} {E : Ends} {tz tu tw : TS}
/-- xs.append(e), e any way -/
theorem s_appM {l : Addr} {ds : List D} (hl : LsD H l ds) (hz : ds.length < sizeLine) (ha : Ev ta g H (.r l)) (h : ∀ H1, Same H H1 → EvM te g H1 R) (k : ∀ H2 d, R d H2 → LsD H2 l ds ∧ ∀ H3, Fr [l] H2 H3 → LsD H3 l (ds ++ [d]) → N E g H3) : W (tDrop (tBM K "list" rAppend ta (tCons te tNil))) E g H := fun σ s =>
  ha σ H (Same.refl _) s _ fun H1 w e hw => by
    cases hw.r_inv
    obtain ⟨vs, h1, h2⟩ := hl.mono e
    refine ⟨.inl ⟨rfl, vs, SqL.of h1⟩, h H1 e σ (s.mono (tpOf e)) _ fun H2 v d t2 hv hR => ?_⟩
    obtain ⟨⟨us, h3, h4⟩, k⟩ := k H2 d hR
    have f1 : Fr [l] H2 (upd H2 l (.lst (us ++ [v]))) := Fr.upd1 h3 (fun xs q => by cases q)
    exact ⟨l, us, v, rfl, rfl, h3, by rw [h4.length]; exact hz, k _ f1 ⟨_, upd_same, (h4.append (.one hv)).mono f1.tp⟩ σ ((s.mono ((tpOf e).trans t2)).mono f1.tp)⟩
theorem q_appM {l : Addr} {ds : List D} (hl : LsD H l ds) (hz : ds.length < sizeLine) (ha : Ev ta g H (.r l)) (h : ∀ H1, Same H H1 → EvM te g H1 R) (k : ∀ H2 d, R d H2 → LsD H2 l ds ∧ ∀ H3, Fr [l] H2 H3 → LsD H3 l (ds ++ [d]) → W tz E g H3) : W (tSeq (tDrop (tBM K "list" rAppend ta (tCons te tNil))) tz) E g H := s_appM (E := { E with nx := tz E }) hl hz ha h k
/-- [(0, 0, {})] -/
theorem m_hist0 : EvM (tLst (tCons (tTup (tCons (tC (.int 0)) (tCons (tC (.int 0)) (tCons tDNewK tNil)))) tNil)) g H fun d' H2 => ∃ l d, d' = .r l ∧ Same H H2 ∧ H l = none ∧ LsD H2 l [.t [.i 0, .i 0, .r d]] ∧ DcD H2 d [] := fun σ s Q q d hd => by
  have e1 : Same H (upd H d (.dK [])) := Same.new hd
  refine ⟨by show 3 ≤ sizeLine; decide, fun p hp => ⟨by show 1 ≤ sizeLine; decide, fun l hl => ?_⟩⟩
  have e2 : Same (upd H d (.dK [])) (upd (upd H d (.dK [])) p (.tup [.int 0, .int 0, .ref d])) := Same.new hp
  have e3 := Same.new (o := .lst [.ref p]) hl
  have dt : DT (upd (upd H d (.dK [])) p (.tup [.int 0, .int 0, .ref d])) (.ref p) (.t [.i 0, .i 0, .r d]) := DT.new hp (.cons .i (.cons .i (.cons .r .nil)))
  exact q _ _ (.r l) (tpOf ((e1.trans e2).trans e3)) .r ⟨l, d, rfl, (e1.trans e2).trans e3, (e1.trans e2).free hl, ⟨_, upd_same, .one (dt.mono (tpOf e3))⟩, e3 _ _ (e2 _ _ upd_same)⟩
end
section
variable {P : Program} {w : World} {K : PySem.W.Frag} {mg : Str → Option Value} {base : Heap} {CR CS CF : Addr}

/-! ### _law_mirrored -/
abbrev sLMirr : Stmt := top 36
theorem sc_lmirr : FnScope ["_law_machine_here", "_law_row", "_law_rule"] ["_law_machine_here"] (defScope sLMirr) := ⟨rfl, rfl, rfl, by decide +kernel, rfl, by decide +kernel, by decide +kernel⟩
def scLMirr1 : Scope := relS (lcSc (arg0 (retE (stAt sLMirr 0)))) (defScope sLMirr)
def teLMirr (K : PySem.W.Frag) (i j : Nat) : TE := tCB (rTupOf K) (tCons (tLc (iTup K (tVar i)) (gName j) tYes (tTup (tCons (tOp (rIxT K) (tVar j) (tC (.int 0))) (tCons (tOp (rI0 fun i j => .int (i - j)) (tC (.int 0)) (tOp (rIxT K) (tVar j) (tC (.int 1)))) (tCons (tOp (rIxT K) (tVar j) (tC (.int 2))) tNil)))) [j]) tNil)
theorem e_mirr2 {H : Hp} {g : Ga} {row : List Rule} {i j : Nat} (hj : g[j]?.isSome = true) (hij : i ≠ j) (hg : g[i]? = some (some (rowD row))) (hz : row.length ≤ 1000) : Ev (teLMirr K i j) g H (rowD (row.map fun r => (r.1, -r.2.1, r.2.2))) := by
  have hlt : j < g.length := by
    rw [Option.isSome_iff_exists] at hj
    obtain ⟨x, hx⟩ := hj
    exact (List.getElem?_eq_some_iff.mp hx).1
  refine (e_tupN (l_lcT (vs := [j]) ruleD (fun _ => true) (fun r => ruleD (r.1, -r.2.1, r.2.2)) (e_var hg) (lt100000 (by omega)) fun j2 x2 H2 e2 hx2 => ⟨_, gw_name (by simp), t_yes, fun _ => ?_⟩)).is ?_
  · have hv : ∀ H3, Ev (tVar j) ((wipeG g [j]).set j (some (ruleD x2))) H3 (ruleD x2) := fun H3 => e_var (by
      rw [List.getElem?_set_self]
      show j < ((wipeG g []).set j none).length
      rw [List.length_set]; exact hlt)
    exact (e_tup (a_cons (e_ixT (d := .i x2.1) (i := 0) rfl (hv _) e_int) (a_cons (e_sub e_int (e_ixT (d := .i x2.2.1) (i := 1) rfl (hv _) e_int)) (a_cons (e_ixT (d := .i x2.2.2) (i := 2) rfl (hv _) e_int) a_nil))) (by show 3 ≤ sizeLine; decide)).is (by rw [Int.zero_sub]; rfl)
  · rw [filt_all]
    unfold rowD
    rw [List.map_map]; rfl
theorem ok_lmirr {f : Addr} {fd : FuncData} (F : Fun K "_law_mirrored" "_law_mirrored" sLMirr f fd) (T : Tx K mg CR CS CF) : FnOk P w K mg base CX0 1 f fd ["_law_machine_here"] spMirr := by
  refine F.ok sc_lmirr (fun vs H Q E h => ?_) (fun cdv A outer s H vs Q E hr h => ?_)
  · obtain ⟨_, hd, _⟩ := h
    exact hd.length
  · obtain ⟨m, hd, ⟨hm1, hm2⟩, k⟩ := h
    have sc := sc_lmirr
    refine ⟨_, (pss_one (ps_ret (pe_callTy call_tuple_of rfl T.tuple (by decide +kernel) (pa_cons (pe_lc (own := [("_law_row", 1)]) (g := gName 1) (tt := tYes) (te := teLMirr K 1 2) rfl sc.nd (pi_tup (pv 0)) (blkOk_by (own := [("_law_row", 1)]) (N := ["_law_machine_here", "_law_row", "_law_rule"]) (sc := defScope sLMirr) (by decide +kernel)) (fun _ _ _ _ _ => (pg_name (i := 1) sc.nd rfl (Or.inl rfl))) (fun _ _ _ _ _ => pts_nil) (fun _ _ _ _ _ => by exact (pe_callTy call_tuple_of rfl T.tuple (by decide +kernel) (pa_cons (pe_lc (own := [("_law_rule", 2)]) (tt := tYes) rfl sc.nd (pi_tup (pv 1)) (blkOk_by (own := [("_law_rule", 2)]) (N := ["_law_machine_here", "_law_row", "_law_rule"]) (sc := scLMirr1) (by decide +kernel)) (fun _ _ _ _ _ => (pg_name (i := 2) sc.nd rfl (Or.inl rfl))) (fun _ _ _ _ _ => pts_nil) (fun _ _ _ _ _ => (pe_tup (pa_cons (pe_ix ix_tup (pv 2) pe_int (fun _ _ => rfl)) (pa_cons (pe_op op_sub pe_int (pe_ix ix_tup (pv 2) pe_int (fun _ _ => rfl))) (pa_cons (pe_ix ix_tup (pv 2) pe_int (fun _ _ => rfl)) pa_nil)))))) pa_nil)))) pa_nil)))), ?_⟩
    refine q_start hd ?_
    refine s_ret (d := machD (mirr m)) ((e_tupN (l_lcT (vs := [1]) rowD (fun _ => true) (fun row => rowD (row.map fun r => (r.1, -r.2.1, r.2.2))) (e_var rfl) (lt100000 (by omega)) fun j x H1 e1 hx => ⟨_, gw_name (by decide), t_yes, fun _ => e_mirr2 (by rfl) (by decide) rfl (hm2 x (List.mem_of_getElem? hx))⟩)).is ?_) fun H1 v e1 hv => k H1 v e1 hv
    rw [filt_all]
    unfold machD mirr
    rw [List.map_map]; rfl

/-! ### _law_tape -/
abbrev sLTape : Stmt := top 39
theorem sc_ltape : FnScope ["_law_shape", "_law_number", "_law_cells", "_law_k"] ["_law_shape", "_law_number"] (defScope sLTape) := ⟨rfl, rfl, rfl, by decide +kernel, rfl, by decide +kernel, by decide +kernel⟩
def spLTape : Sp := fun vs H Q _ => ∃ (sh : Shp) (n : Int), DTs H vs [shD sh, .i n] ∧ TapOk sh ∧ (0 ≤ n ∧ n ≤ 1000) ∧ ∀ H' l, Same H H' → H l = none → LsD H' l ((tapeOf sh n).map D.i) → Q (.ref l) H'
theorem ok_ltape {f : Addr} {fd : FuncData} (F : Fun K "_law_tape" "_law_tape" sLTape f fd) (T : Tx K mg CR CS CF) : FnOk P w K mg base CX0 1 f fd ["_law_shape", "_law_number"] spLTape := by
  refine F.ok sc_ltape (fun vs H Q E h => ?_) (fun cdv A outer s H vs Q E hr h => ?_)
  · obtain ⟨_, _, hd, _⟩ := h
    exact hd.length
  · obtain ⟨⟨flip, st, words, reps, first⟩, n, hd, ok, ⟨hn0, hn1⟩, k⟩ := h
    have sc := sc_ltape
    refine ⟨_, (pss_cons (ps_set (i := 2) sc.nd rfl (Or.inl rfl) (pe_callTy call_list_of rfl T.list (by decide +kernel) (pa_cons (pe_ix ix_tup (pe_ix ix_tup (pv 0) pe_int (fun _ _ => rfl)) pe_int (fun _ _ => rfl)) pa_nil)))
    (pss_cons (ps_for PassesOwn.never rfl (pi_range1 rfl T.range (pa_cons (pe_callB call_len_seq rfl T.len PySem.boot_len (pa_cons (pe_ix ix_tup (pv 0) pe_int (fun _ _ => rfl)) pa_nil)) pa_nil)) (pg_name (i := 3) sc.nd rfl (Or.inl rfl))
      (pss_one (ps_set (i := 2) sc.nd rfl (Or.inl rfl) (pe_op op_cat (pe_op op_cat (pv 2) (pe_op op_rep (pe_callTy call_list_of rfl T.list (by decide +kernel) (pa_cons (pe_ix ix_tup (pe_ix ix_tup (pv 0) pe_int (fun _ _ => rfl)) (pv 3) (fun _ _ => rfl)) pa_nil)) (pv 1))) (pe_callTy call_list_of rfl T.list (by decide +kernel) (pa_cons (pe_ix ix_tup (pe_ix ix_tup (pv 0) pe_int (fun _ _ => rfl)) (pe_op op_add (pv 3) pe_int) (fun _ _ => rfl)) pa_nil))))))
    (pss_one (ps_ret (pv 2))))), ?_⟩
    refine q_start hd ?_
    have wl : words.length = reps.length + 1 := ok.wl
    have rl : reps.length ≤ 2 := ok.rl
    obtain ⟨w0, ws, rfl⟩ : ∃ w0 ws, words = w0 :: ws := by
      cases words with
      | nil => simp at wl
      | cons w0 ws => exact ⟨w0, ws, rfl⟩
    have wl : ws.length = reps.length := by simpa using wl
    have hw0 : w0.length ≤ 1000 := ok.w w0 List.mem_cons_self
    have x2 : ∀ {g : Ga} {H : Hp} {te : TE}, Ev te g H (shD ⟨flip, st, w0 :: ws, reps, first⟩) → Ev (tOp (rIxT K) te (tC (.int 2))) g H (wsD (w0 :: ws)) := fun h => e_ixT rfl h e_int
    have x3 : ∀ {g : Ga} {H : Hp} {te : TE}, Ev te g H (shD ⟨flip, st, w0 :: ws, reps, first⟩) → Ev (tOp (rIxT K) te (tC (.int 3))) g H (wsD reps) := fun h => e_ixT rfl h e_int
    refine q_asgL (l_listT (ds := w0.map D.i) (e_ixT (d := wD w0) (atI_get (k := 0) rfl) (x2 (e_var rfl)) e_int)) fun H1 l1 e1 hn1' hl1 => ?_
    refine q_forR (n := (reps.length : Int)) (a_cons ((e_lenT (x3 (e_var rfl))).is (by rw [List.length_map])) a_nil) ⟨by omega, by omega⟩ fun H2 e2 => ⟨fun j g' H' => ∃ (l : Addr) (acc : List Int) (o3 : Option D), g' = [some (shD ⟨flip, st, w0 :: ws, reps, first⟩), some (.i n), some (.r l), o3] ∧ Same H H' ∧ H l = none ∧ LsD H' l (acc.map D.i) ∧
      w0 ++ tapeGo n reps ws = acc ++ tapeGo n (reps.drop j) (ws.drop j) ∧ acc.length ≤ 1000 + j * 1001000, ⟨l1, w0, _, rfl, e1.trans e2, hn1', hl1.mono e2, rfl, by omega⟩, ?_, ?_⟩
    · rintro j g' H' hj ⟨l, acc, o3, rfl, e3, hln, hls, hacc, hlen⟩
      refine ⟨_, g_name, ?_⟩
      have hk : j < reps.length := by omega
      have hk2 : j < ws.length := by omega
      have hr2 : reps[j].length ≤ 1000 := ok.r _ (List.getElem_mem hk)
      have hw2 : ws[j].length ≤ 1000 := ok.w _ (List.mem_cons_of_mem _ (List.getElem_mem hk2))
      have hrep : (rep n.toNat reps[j]).length ≤ 1000 * 1000 := by
        rw [rep_len]; exact Nat.mul_le_mul (by omega) hr2
      have hrep2 : reps[j].length * n.toNat ≤ 1000 * 1000 := Nat.mul_le_mul hr2 (by omega)
      have hacc2 : acc.length ≤ 1002000 := by
        have : j * 1001000 ≤ 1 * 1001000 := Nat.mul_le_mul_right _ (by omega)
        omega
      have hc1 : EvL (tOp rRep (tCB (rLstOf K) (tCons (tOp (rIxT K) (tOp (rIxT K) (tVar 0) (tC (.int 3))) (tVar 3)) tNil)) (tVar 1)) [some (shD ⟨flip, st, w0 :: ws, reps, first⟩), some (.i n), some (.r l), some (.i (j : Int))] H' ((rep n.toNat reps[j]).map D.i) := by
        have := l_rep (g := [some (shD ⟨flip, st, w0 :: ws, reps, first⟩), some (.i n), some (.r l), some (.i (j : Int))]) (H := H') (k := n) (tb := tVar 1) ⟨hn0, hn1⟩ (by rw [List.length_map, sizeLine_eq]; omega) (l_listT (K := K) (ds := reps[j].map D.i) (e_ixT (K := K) (d := wD reps[j]) (atI_get (by rw [List.getElem?_map, List.getElem?_eq_getElem hk]; rfl)) (x3 (e_var (i := 0) rfl)) (e_var (i := 3) rfl))).q (e_var rfl)
        rw [rep_map] at this
        exact this
      have hc2 := l_cat (by rw [List.length_map, List.length_map, sizeLine_eq]; omega) (l_q hls (e_var (i := 2) rfl)) hc1.q
      have hc3 := l_cat (by rw [List.length_append, List.length_map, List.length_map, List.length_map, sizeLine_eq]; omega) hc2.q (l_listT (K := K) (ds := ws[j].map D.i) (e_ixT (K := K) (d := wD ws[j]) (ds := (w0 :: ws).map wD) (by rw [show ((j : Int) + 1) = ((j + 1 : Nat) : Int) by omega]; exact atI_get (by simp [hk2])) (x2 (e_var (i := 0) rfl)) (e_add (e_var (i := 3) rfl) (e_int (x := 1))))).q
      refine s_asgL hc3 fun H4 l4 e4 hn4 hl4 => n_lp ⟨l4, acc ++ rep n.toNat reps[j] ++ ws[j], _, rfl, e3.trans e4, e3.free hn4, by rw [List.map_append, List.map_append]; exact hl4, ?_, ?_⟩
      · rw [hacc, List.drop_eq_getElem_cons hk, List.drop_eq_getElem_cons hk2]
        show acc ++ (rep n.toNat reps[j] ++ ws[j] ++ tapeGo n (reps.drop (j + 1)) (ws.drop (j + 1))) = _
        simp only [List.append_assoc]
      · rw [List.length_append, List.length_append]
        have : (j + 1) * 1001000 = j * 1001000 + 1001000 := Nat.succ_mul _ _
        omega
    · rintro g' H' ⟨l, acc, o3, rfl, e3, hln, hls, hacc, hlen⟩
      refine s_ret (e_var rfl) fun H4 v e4 hv => ?_
      cases hv.r_inv
      refine k H4 l (e3.trans e4) hln ?_
      have : tapeGo n (reps.drop ((reps.length : Int)).toNat) (ws.drop ((reps.length : Int)).toNat) = [] := by
        rw [List.drop_of_length_le (by omega)]; rfl
      rw [this, List.append_nil] at hacc
      show LsD H4 l ((w0 ++ tapeGo n reps ws).map D.i)
      rw [hacc]; exact hls.mono e4

/-! ### _law_after -/
abbrev sLAfter : Stmt := top 37
theorem sc_lafter : FnScope ["_law_machine_here", "_law_now", "_law_cells", "_law_rule"] ["_law_machine_here", "_law_now"] (defScope sLAfter) := ⟨rfl, rfl, rfl, by decide +kernel, rfl, by decide +kernel, by decide +kernel⟩
abbrev nowD (r : Rn) (d : Addr) : D := .t [.i r.state, .i r.place, .r d]
def spLAfter : Sp := fun vs H Q _ => ∃ (m : Mach) (B : Nat) (r : Rn) (d : Addr), DTs H vs [machD m, nowD r d] ∧ DcD H d r.tape ∧ MachOk m B ∧ RnOk m B r ∧ 0 ≤ r.state ∧ r.steps ≤ 5000 ∧ ∀ H' v p, Same H H' → H p = none → DcD H' p (r.step m).tape → DT H' v (nowD (r.step m) p) → Q v H'
theorem ok_lafter {f : Addr} {fd : FuncData} (F : Fun K "_law_after" "_law_after" sLAfter f fd) (T : Tx K mg CR CS CF) : FnOk P w K mg base CX0 1 f fd ["_law_machine_here", "_law_now"] spLAfter := by
  refine F.ok sc_lafter (fun vs H Q E h => ?_) (fun cdv A outer s H vs Q E hr h => ?_)
  · obtain ⟨_, _, _, _, hd, _⟩ := h
    exact hd.length
  · obtain ⟨m, B, r, d, hd, hdc, mo, rok, h0, hst, k⟩ := h
    have sc := sc_lafter
    have hu := hu_of hr
    refine ⟨_, (pss_cons (ps_set (i := 2) sc.nd rfl (Or.inl rfl) (pe_callTy call_dictC rfl T.dict (by decide +kernel) (pa_cons (pe_ix ix_tup (pv 1) pe_int (fun _ _ => rfl)) pa_nil)))
    (pss_cons (ps_set (i := 3) sc.nd rfl (Or.inl rfl) (pe_ix ix_tup (pe_ix ix_tup (pv 0) (pe_ix ix_tup (pv 1) pe_int (fun _ _ => rfl)) (fun _ _ => rfl)) (pe_dget2 hu (pv 2) (pe_ix ix_tup (pv 1) pe_int (fun _ _ => rfl)) pe_int ⟨rfl, rfl, rfl, rfl⟩) (fun _ _ => rfl)))
    (pss_cons (ps_dput hu (pv 2) (pe_ix ix_tup (pv 1) pe_int (fun _ _ => rfl)) (pe_ix ix_tup (pv 3) pe_int (fun _ _ => rfl)) rfl)
    (pss_one (ps_ret (pe_tup (pa_cons (pe_ix ix_tup (pv 3) pe_int (fun _ _ => rfl)) (pa_cons (pe_op op_add (pe_ix ix_tup (pv 1) pe_int (fun _ _ => rfl)) (pe_ix ix_tup (pv 3) pe_int (fun _ _ => rfl))) (pa_cons (pv 2) pa_nil))))))))), ?_⟩
    refine q_start hd ?_
    obtain ⟨row, q1, q2⟩ := row_at mo ⟨h0, rok.s1⟩ (rok.sym mo)
    have now1 : ∀ {g : Ga} {H : Hp} {te : TE}, Ev te g H (nowD r d) → Ev (tOp (rIxT K) te (tC (.int 1))) g H (.i r.place) := fun h => e_ixT rfl h e_int
    have now0 : ∀ {g : Ga} {H : Hp} {te : TE}, Ev te g H (nowD r d) → Ev (tOp (rIxT K) te (tC (.int 0))) g H (.i r.state) := fun h => e_ixT rfl h e_int
    refine q_asgM (m_dictC hdc (e_ixT (d := .r d) (i := 2) rfl (e_var (d := nowD r d) rfl) e_int)) fun H1 d1 t1 ⟨e1, p, hd1, hp, hdp⟩ => ?_
    subst hd1
    refine q_asg (e_ixT q2 (e_ixT (d := rowD row) q1 (e_var rfl) (now0 (e_var rfl))) (e_get2 hdp (e_var rfl) (now1 (e_var rfl)) e_int)) fun H2 e2 => ?_
    have hlen := rok.ln
    have u0 : ∀ {g : Ga} {H : Hp} {te : TE}, Ev te g H (ruleD (ruleOf m r.state r.sym)) → Ev (tOp (rIxT K) te (tC (.int 0))) g H (.i (ruleOf m r.state r.sym).1) := fun h => e_ixT rfl h e_int
    have u1 : ∀ {g : Ga} {H : Hp} {te : TE}, Ev te g H (ruleD (ruleOf m r.state r.sym)) → Ev (tOp (rIxT K) te (tC (.int 1))) g H (.i (ruleOf m r.state r.sym).2.1) := fun h => e_ixT rfl h e_int
    have u2 : ∀ {g : Ga} {H : Hp} {te : TE}, Ev te g H (ruleD (ruleOf m r.state r.sym)) → Ev (tOp (rIxT K) te (tC (.int 2))) g H (.i (ruleOf m r.state r.sym).2.2) := fun h => e_ixT rfl h e_int
    refine q_dput (hdp.mono e2) (lt100000 (by omega)) (u0 (e_var rfl)) (e_var rfl) (now1 (e_var rfl)) fun H3 f3 hd3 => ?_
    refine s_ret (d := nowD (r.step m) p) (e_tup (a_cons (u2 (e_var rfl)) (a_cons (e_add (now1 (e_var rfl)) (u1 (e_var rfl))) (a_cons (e_var rfl) a_nil))) (by show 3 ≤ sizeLine; decide)) fun H4 v e4 hv => k H4 v p ((f3.same (e1.trans e2) (fun b hb => by rw [List.mem_singleton.mp hb]; exact hp)).trans e4) hp (hd3.mono e4) hv

/-! ### _law_history -/
abbrev sLHist : Stmt := top 38
theorem sc_lhist : FnScope ["_law_machine_here", "_law_count", "_law_found", "_law_k", "_law_now"] ["_law_machine_here", "_law_count"] (defScope sLHist) := ⟨rfl, rfl, rfl, by decide +kernel, rfl, by decide +kernel, by decide +kernel⟩
/-- the configurations of a run, in a list -/
def HsAt (H : Hp) (l : Addr) (m : Mach) (n : Nat) : Prop := ∃ ds, LsD H l ds ∧ ds.length = n + 1 ∧ ∀ k, k ≤ n → ∃ d, ds[k]? = some (nowD (Rn.run m k rn0) d) ∧ DcD H d (Rn.run m k rn0).tape
theorem HsAt.mono {H H' : Hp} {l : Addr} {m : Mach} {n : Nat} (h : HsAt H l m n) (e : Same H H') : HsAt H' l m n := let ⟨ds, a, b, c⟩ := h; ⟨ds, a.mono e, b, fun k hk => let ⟨d, h1, h2⟩ := c k hk; ⟨d, h1, h2.mono e⟩⟩
def spLHist : Sp := fun vs H Q _ => ∃ (m : Mach) (B n : Nat), DTs H vs [machD m, .i n] ∧ MachOk m B ∧ n ≤ 400 ∧ (∀ k, k ≤ n → (Rn.run m k rn0).state ≠ -1) ∧ ∀ H' l, Same H H' → H l = none → HsAt H' l m n → Q (.ref l) H'
theorem ok_lhist {f : Addr} {fd : FuncData} (F : Fun K "_law_history" "_law_history" sLHist f fd) (T : Tx K mg CR CS CF) (c_law_after : Cal P w K mg base "_law_after" 1 ["_law_machine_here", "_law_now"] spLAfter) : FnOk P w K mg base CX0 2 f fd ["_law_machine_here", "_law_count"] spLHist := by
  refine F.ok sc_lhist (fun vs H Q E h => ?_) (fun cdv A outer s H vs Q E hr h => ?_)
  · obtain ⟨_, _, _, hd, _⟩ := h
    exact hd.length
  · obtain ⟨m, B, n, hd, mo, hn, hns, k⟩ := h
    have sc := sc_lhist
    refine ⟨_, (pss_cons (ps_set (i := 2) sc.nd rfl (Or.inl rfl) (pe_lst (pa_cons (pe_tup (pa_cons pe_int (pa_cons pe_int (pa_cons pe_dnewK pa_nil)))) pa_nil)))
    (pss_cons (ps_for PassesOwn.never rfl (pi_range1 rfl T.range (pa_cons (pv 1) pa_nil)) (pg_name (i := 3) sc.nd rfl (Or.inl rfl))
      (pss_cons (ps_set (i := 4) sc.nd rfl (Or.inl rfl) (pe_ix ix_list (pv 2) (pe_op op_sub (pe_callB call_len_seq rfl T.len PySem.boot_len (pa_cons (pv 2) pa_nil)) pe_int) (fun _ _ => rfl)))
      (pss_cons (ps_if (pt_cmpR op_lt (pe_ix ix_tup (pv 4) pe_int (fun _ _ => rfl)) pe_int (nomark _))
        (pss_one (ps_ret (pv 2)))
        pss_nil)
      (pss_one (ps_expr (pe_bm PySem.F.plainAttrs_list PySem.F.slot_list_append PySem.F.type_list_append mt_append (pv 2) (pa_cons (pe_callX c_law_after (hr.mono (by decide)) rfl (pa_cons (pv 0) (pa_cons (pv 4) pa_nil))) pa_nil)))))))
    (pss_one (ps_ret (pv 2))))), ?_⟩
    refine q_start hd ?_
    refine q_asgM m_hist0 fun H1 d1 t1 ⟨l, d, hd1, e1, hln, hls, hdc⟩ => ?_
    subst hd1
    refine q_forR (n := (n : Int)) (a_cons (e_var rfl) a_nil) ⟨by omega, by omega⟩ fun H2 e2 => ⟨fun j g' H' => ∃ o3 o4 : Option D, g' = [some (machD m), some (.i n), some (.r l), o3, o4] ∧ Same H H' ∧ HsAt H' l m j ∧ j ≤ n,
      ⟨_, _, rfl, e1.trans e2, ⟨_, hls.mono e2, rfl, fun k hk => ⟨d, by
        have : k = 0 := by omega
        subst this; rfl, by
        have : k = 0 := by omega
        subst this; exact hdc.mono e2⟩⟩, Nat.zero_le _⟩, ?_, ?_⟩
    · rintro j g' H' hj ⟨o3, o4, rfl, e3, hh, hjn⟩
      refine ⟨_, g_name, ?_⟩
      obtain ⟨ds, hls3, hdl, hall⟩ := id hh
      obtain ⟨dj, hj1, hj2⟩ := hall j (Nat.le_refl _)
      have hne := hns j hjn
      obtain ⟨rok, rst⟩ := run_ok mo j (RnOk.zero mo)
      have h0 : 0 ≤ (Rn.run m j rn0).state := by have := rok.s0; omega
      have rs0 : rn0.steps = 0 := rfl
      have hnext := run_succ hne
      refine q_asg (e_ixL (d := nowD (Rn.run m j rn0) dj) hls3 (i := ((j : Nat) : Int)) (atI_get hj1) (e_var rfl) ((e_sub (e_lenL hls3 (e_var rfl)) e_int).is (by rw [hdl]; congr 1; omega))) fun H4 e4 => ?_
      refine q_when (t_test (e_lt (e_ixT (d := .i (Rn.run m j rn0).state) (i := 0) rfl (e_var (d := nowD (Rn.run m j rn0) dj) rfl) e_int) e_int)) (fun hb H5 e5 => ?_) (fun hb H5 e5 => ?_)
      · have := of_decide_eq_true hb
        omega
      · have e45 := e4.trans e5
        refine s_appM (R := fun d' H6 => ∃ p, d' = nowD (Rn.run m (j + 1) rn0) p ∧ Same H' H6 ∧ DcD H6 p (Rn.run m (j + 1) rn0).tape) (hls3.mono e45) (by rw [hdl]; exact lt100000 (by omega)) (e_var rfl) (fun H6 e6 => m_call (a_cons (e_var rfl) (a_cons (e_var rfl) a_nil)) fun H7 vs e7 hvs Q2 q => ⟨m, B, Rn.run m j rn0, dj, hvs, ((hj2.mono e45).mono e6).mono e7, mo, rok, h0, by omega, fun H8 v p e8 hp hdp hv => q H8 v (nowD (Rn.run m (j + 1) rn0) p) (tpOf e8) (by rw [hnext]; exact hv) ⟨p, rfl, ((e45.trans e6).trans e7).trans e8, by rw [hnext]; exact hdp⟩⟩) fun H6 d6 ⟨p, hd6, e6, hdp⟩ => ⟨hls3.mono e6, fun H7 f7 hl7 => n_lp ⟨_, _, rfl, f7.same (e3.trans e6) (fun b hb => by rw [List.mem_singleton.mp hb]; exact hln), ⟨ds ++ [d6], hl7, by rw [List.length_append]; show _ + 1 = _; omega, fun k hk => ?_⟩, by omega⟩⟩
        subst hd6
        by_cases hkj : k = j + 1
        · subst hkj
          exact ⟨p, by rw [← hdl, List.getElem?_append_right (Nat.le_refl _), Nat.sub_self]; rfl, hdp.fr f7 (by simpa using ((hls3.mono e6).neD hdp).symm)⟩
        · obtain ⟨dk, hk1, hk2⟩ := hall k (by omega)
          exact ⟨dk, by rw [List.getElem?_append_left (by omega)]; exact hk1, (hk2.mono e6).fr f7 (by simpa using ((hls3.mono e6).neD (hk2.mono e6)).symm)⟩
    · rintro g' H' ⟨o3, o4, rfl, e3, hh, hjn⟩
      refine s_ret (e_var rfl) fun H4 v e4 hv => ?_
      cases hv.r_inv
      rw [show ((n : Int)).toNat = n by omega] at hh
      exact k H4 l (e3.trans e4) hln (hh.mono e4)

/-! ### _law_is_at -/
abbrev sLIsAt : Stmt := top 40
theorem sc_lisat : FnScope ["_law_now", "_law_shape", "_law_number", "_law_cells", "_law_place", "_law_at"] ["_law_now", "_law_shape", "_law_number"] (defScope sLIsAt) := ⟨rfl, rfl, rfl, by decide +kernel, rfl, by decide +kernel, by decide +kernel⟩
def spLIsAt : Sp := fun vs H Q _ => ∃ (r : Rn) (d : Addr) (sh : Shp) (n : Int), DTs H vs [nowD r d, shD sh, .i n] ∧ DcD H d r.tape ∧ r.tape.length ≤ 5000 ∧ TapOk sh ∧ (0 ≤ n ∧ n ≤ 1000) ∧ ∀ H', Same H H' → Q (.bl (isAt r sh n)) H'
theorem tapeOf_len {sh : Shp} {n : Int} (ok : TapOk sh) (hn : 0 ≤ n ∧ n ≤ 1000) : (tapeOf sh n).length ≤ 3003000 := by
  obtain ⟨flip, st, words, reps, first⟩ := sh
  have wl : words.length = reps.length + 1 := ok.wl
  have rl : reps.length ≤ 2 := ok.rl
  have hw : ∀ w ∈ words, w.length ≤ 1000 := ok.w
  have hr : ∀ w ∈ reps, w.length ≤ 1000 := ok.r
  have key : ∀ (rs ws : List (List Int)), (∀ w ∈ rs, w.length ≤ 1000) → (∀ w ∈ ws, w.length ≤ 1000) → (tapeGo n rs ws).length ≤ rs.length * 1001000 := by
    intro rs
    induction rs with
    | nil => intro ws _ _; exact Nat.zero_le _
    | cons a rs ih =>
      intro ws h1 h2
      cases ws with
      | nil => exact Nat.zero_le _
      | cons b ws =>
        have := ih ws (fun w h => h1 w (List.mem_cons_of_mem _ h)) fun w h => h2 w (List.mem_cons_of_mem _ h)
        show (rep n.toNat a ++ b ++ tapeGo n rs ws).length ≤ _
        have ha : (rep n.toNat a).length ≤ 1000 * 1000 := by rw [rep_len]; exact Nat.mul_le_mul (by omega) (h1 a List.mem_cons_self)
        have hb := h2 b List.mem_cons_self
        rw [List.length_append, List.length_append, List.length_cons, Nat.succ_mul]
        omega
  show (words.headD [] ++ tapeGo n reps words.tail).length ≤ _
  have h1 := key reps words.tail hr fun w h => hw w (List.mem_of_mem_tail h)
  have h2 : (words.headD []).length ≤ 1000 := by
    cases words with
    | nil => exact Nat.zero_le _
    | cons a b => exact hw a List.mem_cons_self
  have : reps.length * 1001000 ≤ 2 * 1001000 := Nat.mul_le_mul_right _ rl
  rw [List.length_append]
  omega
theorem ok_lisat {f : Addr} {fd : FuncData} (F : Fun K "_law_is_at" "_law_is_at" sLIsAt f fd) (T : Tx K mg CR CS CF) (c_law_tape : Cal P w K mg base "_law_tape" 1 ["_law_shape", "_law_number"] spLTape) : FnOk P w K mg base CX0 2 f fd ["_law_now", "_law_shape", "_law_number"] spLIsAt := by
  refine F.ok sc_lisat (fun vs H Q E h => ?_) (fun cdv A outer s H vs Q E hr h => ?_)
  · obtain ⟨_, _, _, _, hd, _⟩ := h
    exact hd.length
  · obtain ⟨r, d, sh, n, hd, hdc, htl, tok, hn, k⟩ := h
    have sc := sc_lisat
    have hu := hu_of hr
    refine ⟨_, (pss_cons (ps_if (pt_cmpR op_ne (pe_ix ix_tup (pv 0) pe_int (fun _ _ => rfl)) (pe_ix ix_tup (pv 1) pe_int (fun _ _ => rfl)) (nomark _))
      (pss_one (ps_ret pe_bl))
      pss_nil)
    (pss_cons (ps_set (i := 3) sc.nd rfl (Or.inl rfl) (pe_callX c_law_tape (hr.mono (by decide)) rfl (pa_cons (pv 1) (pa_cons (pv 2) pa_nil))))
    (pss_cons (ps_lock (ps_for PassesOwn.never rfl (pi_keys (pe_ix ix_tup (pv 0) pe_int (fun _ _ => rfl))) (pg_name (i := 4) sc.nd rfl (Or.inl rfl))
      (pss_cons (ps_set (i := 5) sc.nd rfl (Or.inl rfl) (pe_op op_add (pe_op op_sub (pv 4) (pe_ix ix_tup (pv 0) pe_int (fun _ _ => rfl))) (pe_callB call_len_seq rfl T.len PySem.boot_len (pa_cons (pv 3) pa_nil))))
      (pss_one (ps_if (PW.pt (pw_and (pt_cmpR op_ne (pe_dget hu (pe_ix ix_tup (pv 0) pe_int (fun _ _ => rfl)) (pv 4) (fun _ _ => rfl)) pe_int (nomark _)) (pw_and1 (PW.pt (pw_or (pt_cmpR op_lt (pv 5) pe_int (nomark _)) (pw_or1 (pt_cmpR op_ge (pv 5) (pe_callB call_len_seq rfl T.len PySem.boot_len (pa_cons (pv 3) pa_nil)) (nomark _))))))))
        (pss_one (ps_ret pe_bl))
        pss_nil)))))
    (pss_cons (ps_for PassesOwn.never rfl (pi_range1 rfl T.range (pa_cons (pe_callB call_len_seq rfl T.len PySem.boot_len (pa_cons (pv 3) pa_nil)) pa_nil)) (pg_name (i := 5) sc.nd rfl (Or.inl rfl))
      (pss_one (ps_if (pt_cmpR op_ne (pe_dget2 hu (pe_ix ix_tup (pv 0) pe_int (fun _ _ => rfl)) (pe_op op_add (pe_op op_sub (pe_ix ix_tup (pv 0) pe_int (fun _ _ => rfl)) (pe_callB call_len_seq rfl T.len PySem.boot_len (pa_cons (pv 3) pa_nil))) (pv 5)) pe_int ⟨rfl, rfl, rfl, rfl⟩) (pe_ix ix_list (pv 3) (pv 5) (fun _ _ => rfl)) (nomark _))
        (pss_one (ps_ret pe_bl))
        pss_nil)))
    (pss_one (ps_ret pe_bl)))))), ?_⟩
    refine q_start hd ?_
    have now0 : ∀ {g : Ga} {H : Hp} {te : TE}, Ev te g H (nowD r d) → Ev (tOp (rIxT K) te (tC (.int 0))) g H (.i r.state) := fun h => e_ixT rfl h e_int
    have now1 : ∀ {g : Ga} {H : Hp} {te : TE}, Ev te g H (nowD r d) → Ev (tOp (rIxT K) te (tC (.int 1))) g H (.i r.place) := fun h => e_ixT rfl h e_int
    have now2 : ∀ {g : Ga} {H : Hp} {te : TE}, Ev te g H (nowD r d) → Ev (tOp (rIxT K) te (tC (.int 2))) g H (.r d) := fun h => e_ixT rfl h e_int
    have fin : ∀ (H' : Hp) (b : Bool), isAt r sh n = b → Same H H' → Q (.bl b) H' := fun H' b hb e => by rw [← hb]; exact k H' e
    refine q_when (t_test (e_neI (now0 (e_var rfl)) (e_ixT (d := .i sh.st) (i := 1) rfl (e_var (d := shD sh) rfl) e_int))) (fun hb H1 e1 => ?_) (fun hb H1 e1 => ?_)
    · refine s_ret e_bl fun H2 v e2 hv => ?_
      cases hv.b_inv
      refine fin H2 _ ?_ (e1.trans e2)
      unfold isAt
      exact if_pos (by simpa using hb)
    · have hst : ¬ r.state ≠ sh.st := by simpa using hb
      have cl := tapeOf_len tok hn
      generalize hcs : tapeOf sh n = cs at cl
      have his : isAt r sh n = ((r.tape.all fun e => !(decide ((mget r.tape e.1).getD 0 ≠ 0) && (decide (e.1 - r.place + (cs.length : Int) < 0) || decide (e.1 - r.place + (cs.length : Int) ≥ (cs.length : Int))))) &&
          (List.range cs.length).all fun (k : Nat) => decide ((mget r.tape (r.place - (cs.length : Int) + (k : Int))).getD 0 = cs.getD k 0)) := by
        rw [← hcs]; unfold isAt; rw [if_neg hst]
      generalize hp : (fun e : Int × Int => !(decide ((mget r.tape e.1).getD 0 ≠ 0) && (decide (e.1 - r.place + (cs.length : Int) < 0) || decide (e.1 - r.place + (cs.length : Int) ≥ (cs.length : Int))))) = pp at his
      generalize hq : (fun (k : Nat) => decide ((mget r.tape (r.place - (cs.length : Int) + (k : Int))).getD 0 = cs.getD k 0)) = qq at his
      refine q_asgM (m_call (R := fun d' H2 => ∃ l, d' = .r l ∧ Same H1 H2 ∧ H1 l = none ∧ LsD H2 l (cs.map D.i)) (a_cons (e_var rfl) (a_cons (e_var rfl) a_nil)) fun H2 vs e2 hvs Q2 q => ⟨sh, n, hvs, tok, hn, fun H3 l e3 hl hls => q H3 _ (.r l) (tpOf e3) .r ⟨l, rfl, e2.trans e3, e2.free hl, by rw [← hcs]; exact hls⟩⟩) fun H2 d2 t2 ⟨l, hd2, e2, hln, hls⟩ => ?_
      subst hd2
      have e12 := e1.trans e2
      have hdc2 := hdc.mono e12
      have nld := hls.neD hdc2
      refine q_forK hdc2 (fun od => now2 (e_var rfl)) fun od => ⟨fun j g' H' => ∃ o4 o5 : Option D, g' = [some (nowD r d), some (shD sh), some (.i n), some (.r l), o4, o5] ∧ Same (lkH H2 d od r.tape) H' ∧ (r.tape.take j).all pp = true, fun H3 e3 => ⟨_, _, rfl, e3, by simp⟩, fun j g' H' ⟨_, _, _, e, _⟩ => e, ?_, ?_⟩
      · rintro j x g' H' hx ⟨o4, o5, rfl, e3, hall⟩
        obtain ⟨kv, hkv, rfl⟩ := getElem?_map_inv hx
        refine ⟨_, g_name, ?_⟩
        have fL : Fr [d] H2 (lkH H2 d od r.tape) := Fr.upd1 hdc2 fun xs q => by cases q
        have hls3 := (hls.fr fL (by simpa using nld)).mono e3
        refine q_asg (e_add (e_sub (e_var rfl) (now1 (e_var rfl))) ((e_lenL hls3 (e_var rfl)).is (by rw [List.length_map]))) fun H4 e4 => ?_
        obtain ⟨v, hv⟩ := mget_of_key (List.mem_map.mpr ⟨kv, List.mem_of_getElem? hkv, rfl⟩)
        have e34 := e3.trans e4
        have hpk : pp kv = !(!decide (v = 0) && (decide (kv.1 - r.place + (cs.length : Int) < 0) || decide ((cs.length : Int) ≤ kv.1 - r.place + (cs.length : Int)))) := by
          rw [← hp]
          show (!(decide ((mget r.tape kv.1).getD 0 ≠ 0) && _)) = _
          rw [hv]
          by_cases h : v = 0 <;> simp [h]
        refine s_when (t_and (t_test (e_neI (e_dget (x := v) (Or.inr ⟨od, e34 _ _ upd_same⟩) hv (now2 (e_var rfl)) (e_var rfl)) e_int)) fun _ => (t_or (t_test (e_lt (e_var rfl) e_int)) fun _ => (t_test (e_ge (e_var rfl) ((e_lenL (hls3.mono e4) (e_var rfl)).is (by rw [List.length_map])))))) (fun hb2 H5 e5 => ?_) (fun hb2 H5 e5 => ?_)
        · refine s_ret e_bl fun H6 v e6 hv => ?_
          cases hv.b_inv
          obtain ⟨q1, q2⟩ := lk_open hdc2 ((e34.trans e5).trans e6)
          refine ⟨q1, fin _ _ ?_ (e12.trans q2)⟩
          rw [his, all_false hkv (by rw [hpk, hb2]; rfl)]; rfl
        · exact n_lp ⟨_, _, rfl, e34.trans e5, all_take_succ hkv hall (by rw [hpk, hb2]; rfl)⟩
      · rintro g' H' ⟨o4, o5, rfl, e3, hall⟩
        rw [List.take_length] at hall
        obtain ⟨_, q2⟩ := lk_open hdc2 e3
        have hls3 := hls.mono q2
        have e13 := e12.trans q2
        refine q_forR (n := (cs.length : Int)) (a_cons ((e_lenL hls3 (e_var rfl)).is (by rw [List.length_map])) a_nil) ⟨by omega, by omega⟩ fun H4 e4 => ⟨fun j g' H' => ∃ o4 o5 : Option D, g' = [some (nowD r d), some (shD sh), some (.i n), some (.r l), o4, o5] ∧ Same H H' ∧ Same H2 H' ∧ ((List.range cs.length).take j).all qq = true,
          ⟨_, _, rfl, e13.trans e4, q2.trans e4, by simp⟩, ?_, ?_⟩
        · rintro j g' H' hj ⟨o4, o5, rfl, e5, e5b, hall2⟩
          refine ⟨_, g_name, ?_⟩
          have hjr : (List.range cs.length)[j]? = some j := List.getElem?_range (by omega)
          refine s_when (t_test (e_neI (e_get2 (hdc.mono e5) (now2 (e_var rfl)) (e_add (e_sub (now1 (e_var rfl)) ((e_lenL (hls.mono e5b) (e_var rfl)).is (by rw [List.length_map]))) (e_var rfl)) e_int) (e_ixL (hls.mono e5b) (atI_int (by omega)) (e_var rfl) (e_var rfl)))) (fun hb2 H6 e6 => ?_) (fun hb2 H6 e6 => ?_)
          · refine s_ret e_bl fun H7 v e7 hv => ?_
            cases hv.b_inv
            refine fin H7 _ ?_ ((e5.trans e6).trans e7)
            rw [his, hall, all_false hjr (by rw [← hq]; simpa using hb2)]; rfl
          · exact n_lp ⟨_, _, rfl, e5.trans e6, e5b.trans e6, all_take_succ hjr hall2 (by rw [← hq]; simpa using hb2)⟩
        · rintro g' H' ⟨o4, o5, rfl, e5, e5b, hall2⟩
          refine s_ret e_bl fun H7 v e7 hv => ?_
          cases hv.b_inv
          refine fin H7 _ ?_ (e5.trans e7)
          rw [show ((cs.length : Int)).toNat = (List.range cs.length).length by rw [List.length_range]; omega, List.take_length] at hall2
          rw [his, hall, hall2]; rfl
end
end Tac

namespace Tac
open PySem PySem.Spec PyProof.Rows L2
section
variable {K : PySem.W.Frag} {g : Ga} {H H' : Hp} {ta tb tc te : TE} {t u : TT} {d e : D} {R R' : D → Hp → Prop} {E : Ends} {tz tu tw : TS} {tg : TG} {tl : TA} {S L : Addr} {X : Int → Prop}
theorem EvM.imp (h : EvM te g H R) (k : ∀ d H2, R d H2 → R' d H2) : EvM te g H R' := fun σ s Q q => h σ s Q fun H2 v d e hv hR => q H2 v d e hv (k d H2 hR)
theorem q_ifMR {R : Bool → Hp → Prop} (J : Ga → Hp → Prop) (h : EvTM t g H R) (k : ∀ g' H1, J g' H1 → W tz E g' H1)
    (h1 : ∀ H1, Tp H H1 → R true H1 → (∀ g' H2, J g' H2 → N { E with nx := tz E } g' H2) → W tu { E with nx := tz E } g H1)
    (h2 : ∀ H1, Tp H H1 → R false H1 → (∀ g' H2, J g' H2 → N { E with nx := tz E } g' H2) → W tw { E with nx := tz E } g H1) : W (tSeq (tIfS t tu tw) tz) E g H :=
  q_ifM h (fun H1 e r => h1 H1 e r k) (fun H1 e r => h2 H1 e r k)
/-- xs[i] = e, e any way -/
theorem s_setLM (h : EvM te g H R) (k : ∀ H1 d, Tp H H1 → R d H1 → ∃ (l : Addr) (ds : List D) (x : Int) (j : Nat), LsD H1 l ds ∧ ixN ds.length x = some j ∧ Ev ta g H1 (.r l) ∧ Ev tb g H1 (.i x) ∧ ∀ H2, Fr [l] H1 H2 → LsD H2 l (ds.set j d) → N E g H2) : W (tAsg te (gSub ta tb rSetL)) E g H := fun σ s =>
  h σ s _ fun H1 v d t1 hv hR => by
    obtain ⟨l, ds, x, j, hl, hx, ha, hb, k⟩ := k H1 d t1 hR
    refine ha σ H1 (Same.refl _) (s.mono t1) _ fun H2 w e2 hw => hb σ H2 e2 (s.mono (t1.trans (tpOf e2))) _ fun H3 z e3 hz' => ?_
    have e13 := e2.trans e3
    obtain ⟨vs, h1, h2⟩ := hl.mono e13
    have f1 : Fr [l] H3 (upd H3 l (.lst (vs.set j v))) := Fr.upd1 h1 (fun xs q => by cases q)
    exact ⟨l, vs, x, j, hw.r_inv, hz'.i_inv, h1, by rw [h2.length]; exact hx, k _ ((Fr.of e13).trans f1) ⟨_, upd_same, (h2.set (hv.mono (tpOf e13)) j).mono f1.tp⟩ σ ((s.mono (t1.trans (tpOf e13))).mono f1.tp)⟩
theorem s_forRI (st : StAt H S L) (hl : EvI te g H S L X) (hn : ∀ n, X n → -(2 ^ 62) ≤ n ∧ n < 2 ^ 62) (h : ∀ H1 n, Fr [S] H H1 → StAt H1 S L → X n → ∃ J : Nat → Ga → Hp → Prop, J 0 g H1 ∧
    (∀ (k : Nat) g' H', (k : Int) < n → J k g' H' → ∃ g2, Gs tg g' H' (.i k) g2 ∧ W tu (lp E (J (k + 1))) g2 H') ∧ ∀ g' H', J n.toNat g' H' → N E g' H') : W (tFor (iRng1 (tCons te tNil)) tg tu) E g H := fun σ s =>
  hl st σ s _ fun H1 n f1 st1 hX => by
    obtain ⟨J, j0, jn, jd⟩ := h H1 n f1 st1 hX
    have hn := hn n hX
    refine ⟨n, rfl, hn.1, hn.2, for_range (lo := 0) (n := n.toNat) (fun k => Nx (J k)) ⟨g, s.mono f1.tp, j0⟩ ?_ ?_⟩
    · rintro k σ' H' hk ⟨g', s', hj⟩
      obtain ⟨g2, hg, hw⟩ := jn k g' H' (by omega) hj
      rw [Int.zero_add]
      exact hg σ' _ s' .i _ fun σ2 s2 => hw σ2 s2
    · rintro σ' H' ⟨g', s', hj⟩
      exact jd g' H' hj σ' s'
theorem q_forRI (st : StAt H S L) (hl : EvI te g H S L X) (hn : ∀ n, X n → -(2 ^ 62) ≤ n ∧ n < 2 ^ 62) (h : ∀ H1 n, Fr [S] H H1 → StAt H1 S L → X n → ∃ J : Nat → Ga → Hp → Prop, J 0 g H1 ∧
    (∀ (k : Nat) g' H', (k : Int) < n → J k g' H' → ∃ g2, Gs tg g' H' (.i k) g2 ∧ W tu (lp { E with nx := tz E } (J (k + 1))) g2 H') ∧ ∀ g' H', J n.toNat g' H' → W tz E g' H') : W (tSeq (tFor (iRng1 (tCons te tNil)) tg tu) tz) E g H := s_forRI (E := { E with nx := tz E }) st hl hn h
/-- [[..] for i in range(n)], each item a new list -/
theorem m_lcRN {n : Int} {vs : List Nat} {ds : List D} (hl : EvA tl g H [.i n]) (hn : 0 ≤ n ∧ n < 1000)
    (h : ∀ (k : Nat) (H2 : Hp), Same H H2 → (k : Int) < n → ∃ g2, GsW tg vs (wipeG g vs) H2 (.i k) g2 ∧ EvL tb g2 H2 ds) :
    EvM (tLc (iRng1 tl) tg tYes tb vs) g H fun d' H2 => ∃ (p : Addr) (as : List Addr), d' = .r p ∧ Same H H2 ∧ H p = none ∧ LsD H2 p (as.map D.r) ∧ as.length = n.toNat ∧ ∀ a ∈ as, p ≠ a ∧ H a = none ∧ LsD H2 a ds := fun σ s Q q =>
  hl σ H (Same.refl _) s _ fun H1 ws e1 hv => by
    obtain ⟨v, r, rfl, h1, h2⟩ := hv.cons_inv
    cases h2.nil_inv; cases h1.i_inv
    refine ⟨n, rfl, by omega, by omega, fun Dl hD => ⟨fun i m H' => m = n.toNat - i ∧ i ≤ n.toNat ∧ Same H1 H' ∧ ∃ as : List Addr, as.length = i ∧ LsD H' Dl (as.map D.r) ∧ ∀ a ∈ as, Dl ≠ a ∧ H1 a = none ∧ LsD H' a ds, ⟨_, rfl, Nat.zero_le _, Same.new hD, [], rfl, ⟨[], upd_same, .nil⟩, fun a h => nomatch h⟩, ?_⟩⟩
    rintro i m H' ⟨rfl, hi, e, as, hal, hL, hall⟩
    by_cases hlt : i < n.toNat
    · refine .inr ⟨hlt, fun H'' => Same H1 H'' ∧ ∃ as : List Addr, as.length = i + 1 ∧ LsD H'' Dl (as.map D.r) ∧ ∀ a ∈ as, Dl ≠ a ∧ H1 a = none ∧ LsD H'' a ds, fun H'' p => ⟨n.toNat - (i + 1), by omega, rfl, hlt, p⟩, ?_⟩
      rintro x H'' ⟨rfl, ex⟩
      obtain ⟨g2, hg, hb⟩ := h i _ (e1.trans e) (by omega)
      rw [ex, Int.zero_add]
      refine hg (wipe σ vs) _ ((s.mono (tpOf (e1.trans e))).wipe vs) .i _ fun σ2 s2 hw => ⟨by rw [hw]; exact wipe_idem σ vs, ?_⟩
      refine t_yes σ2 _ (Same.refl _) s2 _ fun H3 e3 => ?_
      refine iteT (hb σ2 H3 e3 (s2.mono (tpOf e3)) _ fun H4 z us e34 hz3 h4 hd4 => ?_)
      have e4 := e3.trans e34
      have hz := e3.free hz3
      obtain ⟨acc, ha, hacc⟩ := hL.mono e4
      obtain ⟨acc0, ha0, _⟩ := hL
      have nz : Dl ≠ z := ne_of_none ha0 hz
      have f1 : Fr [Dl] H4 (upd H4 Dl (.lst (acc ++ [.ref z]))) := Fr.upd1 ha (fun xs q => by cases q)
      refine ⟨acc, ha, by rw [hacc.length, List.length_map, sizeLine_eq]; omega, f1.same (e.trans e4) (fun b hb => by rw [List.mem_singleton.mp hb]; exact hD), as ++ [z], by rw [List.length_append, hal]; rfl, ⟨_, upd_same, ?_⟩, fun a ha' => ?_⟩
      · rw [List.map_append]
        exact (hacc.append (.one .r)).mono f1.tp
      · rcases List.mem_append.mp ha' with y | y
        · obtain ⟨q1, q2, q3⟩ := hall a y
          exact ⟨q1, q2, (q3.mono e4).fr f1 (by simpa using q1.symm)⟩
        · rw [List.mem_singleton.mp y]
          exact ⟨nz, e.free hz, LsD.fr ⟨us, h4, hd4⟩ f1 (by simpa using nz.symm)⟩
    · have e' : i = n.toNat := by omega
      subst e'
      refine .inl ⟨Nat.le_refl _, ?_⟩
      exact q H' _ (.r Dl) (tpOf (e1.trans e)) .r ⟨Dl, as, rfl, e1.trans e, e1.free hD, hL, hal, fun a ha => let ⟨q1, q2, q3⟩ := hall a ha; ⟨q1, e1.free q2, q3⟩⟩
end
def RlOk (S B : Nat) (r : Rule) : Prop := 0 ≤ r.1 ∧ r.1 < B ∧ (r.2.1 = 1 ∨ r.2.1 = -1) ∧ -1 ≤ r.2.2 ∧ r.2.2 < S
/-- a machine in the making: lists of rules, in a list -/
structure RowsAt (H0 H : Hp) (R : Addr) (prs : List (Addr × List Rule)) (S B : Nat) : Prop where
  rn : H0 R = none
  ls : LsD H R (prs.map fun q => D.r q.1)
  ln : prs.length = S
  al : ∀ q ∈ prs, H0 q.1 = none ∧ R ≠ q.1 ∧ LsD H q.1 (q.2.map ruleD) ∧ q.2.length = B ∧ ∀ r ∈ q.2, RlOk S B r
theorem RowsAt.fr {H0 H H' : Hp} {R : Addr} {prs : List (Addr × List Rule)} {S B : Nat} {Z : List Addr} (h : RowsAt H0 H R prs S B) (f : Fr Z H H') (hz : ∀ b ∈ Z, ∃ o, H0 b = some o) : RowsAt H0 H' R prs S B :=
  ⟨h.rn, h.ls.fr f (fun z => by obtain ⟨o, ho⟩ := hz _ z; rw [h.rn] at ho; cases ho), h.ln, fun q hq => let ⟨a, b, c, d⟩ := h.al q hq; ⟨a, b, c.fr f (fun z => by obtain ⟨o, ho⟩ := hz _ z; rw [a] at ho; cases ho), d⟩⟩
theorem RowsAt.mono {H0 H H' : Hp} {R : Addr} {prs : List (Addr × List Rule)} {S B : Nat} (h : RowsAt H0 H R prs S B) (e : Same H H') : RowsAt H0 H' R prs S B := h.fr (Z := []) (Fr.of e) (fun b h => nomatch h)
theorem RowsAt.mach {H0 H : Hp} {R : Addr} {prs : List (Addr × List Rule)} {S B : Nat} (h : RowsAt H0 H R prs S B) (s1 : 1 ≤ S) (s4 : S ≤ 4) (b2 : 2 ≤ B) (b4 : B ≤ 4) : MachOk (prs.map (·.2)) B := by
  have hl : (prs.map (·.2)).length = S := by rw [List.length_map, h.ln]
  refine ⟨by rw [hl]; exact s1, by rw [hl]; exact s4, b2, b4, fun row hr => ?_, fun row hr r hx => ?_⟩
  · obtain ⟨q, hq, rfl⟩ := List.mem_map.mp hr
    exact (h.al q hq).2.2.2.1
  · obtain ⟨q, hq, rfl⟩ := List.mem_map.mp hr
    rw [hl]
    exact (h.al q hq).2.2.2.2 r hx
def fpD : Option (Int × Int) → D
  | none => .n
  | some (i, j) => .t [.i i, .i j]
section
variable {P : Program} {w : World} {K : PySem.W.Frag} {mg : Str → Option Value} {base : Heap} {CR CS CF : Addr}

/-! ### _law_needed -/
abbrev sLNeed : Stmt := top 33
theorem sc_lneed : FnScope ["_law_rows", "_law_steps", "_law_cells", "_law_place", "_law_state", "_law_k", "_law_symbol", "_law_rule"] ["_law_rows", "_law_steps"] (defScope sLNeed) := ⟨rfl, rfl, rfl, by decide +kernel, rfl, by decide +kernel, by decide +kernel⟩
def spLNeed : Sp := fun vs H Q _ => ∃ (H0 : Hp) (R : Addr) (prs : List (Addr × List Rule)) (S B n : Nat), DTs H vs [.r R, .i n] ∧ RowsAt H0 H R prs S B ∧ 1 ≤ S ∧ 1 ≤ B ∧ n ≤ 100 ∧ ∀ H' v o, Same H H' → DT H' v (fpD o) → (∀ i j, o = some (i, j) → (0 ≤ i ∧ i < S) ∧ 0 ≤ j ∧ j < B) → Q v H'
theorem ok_lneed {f : Addr} {fd : FuncData} (F : Fun K "_law_needed" "_law_needed" sLNeed f fd) (T : Tx K mg CR CS CF) : FnOk P w K mg base CX0 1 f fd ["_law_rows", "_law_steps"] spLNeed := by
  refine F.ok sc_lneed (fun vs H Q E h => ?_) (fun cdv A outer s H vs Q E hr h => ?_)
  · obtain ⟨_, _, _, _, _, _, hd, _⟩ := h
    exact hd.length
  · obtain ⟨H0, R, prs, S, B, n, hd, rat, s1, b1, hn, k⟩ := h
    have sc := sc_lneed
    have hu := hu_of hr
    refine ⟨_, (pss_cons (ps_set (i := 2) sc.nd rfl (Or.inl rfl) pe_dnewK)
    (pss_cons (ps_set (i := 3) sc.nd rfl (Or.inl rfl) pe_int)
    (pss_cons (ps_set (i := 4) sc.nd rfl (Or.inl rfl) pe_int)
    (pss_cons (ps_for PassesOwn.never rfl (pi_range1 rfl T.range (pa_cons (pv 1) pa_nil)) (pg_name (i := 5) sc.nd rfl (Or.inl rfl))
      (pss_cons (ps_set (i := 6) sc.nd rfl (Or.inl rfl) (pe_dget2 hu (pv 2) (pv 3) pe_int ⟨rfl, rfl, rfl, rfl⟩))
      (pss_cons (ps_set (i := 7) sc.nd rfl (Or.inl rfl) (pe_ix ix_list (pe_ix ix_list (pv 0) (pv 4) (fun _ _ => rfl)) (pv 6) (fun _ _ => rfl)))
      (pss_cons (ps_if (pt_cmpR op_lt (pe_ix ix_tup (pv 7) pe_int (fun _ _ => rfl)) pe_int (nomark _))
        (pss_one (ps_ret (pe_tup (pa_cons (pv 4) (pa_cons (pv 6) pa_nil)))))
        pss_nil)
      (pss_cons (ps_dput hu (pv 2) (pv 3) (pe_ix ix_tup (pv 7) pe_int (fun _ _ => rfl)) rfl)
      (pss_cons (ps_set (i := 3) sc.nd rfl (Or.inl rfl) (pe_op op_add (pv 3) (pe_ix ix_tup (pv 7) pe_int (fun _ _ => rfl))))
      (pss_one (ps_set (i := 4) sc.nd rfl (Or.inl rfl) (pe_ix ix_tup (pv 7) pe_int (fun _ _ => rfl))))))))))
    (pss_one (ps_ret pe_non)))))), ?_⟩
    refine q_start hd ?_
    refine q_asgM m_dnew fun H1 d1 t1 ⟨e1, dd, hd1, hdn, hdc⟩ => ?_
    subst hd1
    refine q_asg e_int fun H2 e2 => ?_
    refine q_asg e_int fun H3 e3 => ?_
    refine q_forR (n := (n : Int)) (a_cons (e_var rfl) a_nil) ⟨by omega, by omega⟩ fun H4 e4 => ⟨fun j g' H' => ∃ (tape : List (Int × Int)) (pl st : Int) (o5 o6 o7 : Option D), g' = [some (.r R), some (.i n), some (.r dd), some (.i pl), some (.i st), o5, o6, o7] ∧ Same H H' ∧ DcD H' dd tape ∧ tape.length ≤ j ∧ (0 ≤ st ∧ st < S) ∧ ∀ e ∈ tape, 0 ≤ e.2 ∧ e.2 < B,
      ⟨[], 0, 0, _, _, _, rfl, ((e1.trans e2).trans e3).trans e4, ((hdc.mono e2).mono e3).mono e4, Nat.le_refl _, ⟨Int.le_refl _, by omega⟩, fun e h => nomatch h⟩, ?_, ?_⟩
    · rintro j g' H' hj ⟨tape, pl, st, o5, o6, o7, rfl, e5, hdc5, hlen, ⟨st0, st1⟩, hvals⟩
      refine ⟨_, g_name, ?_⟩
      have hsy : 0 ≤ (mget tape pl).getD 0 ∧ (mget tape pl).getD 0 < B := by
        cases h : mget tape pl with
        | none => simp; omega
        | some v => simpa using hvals _ (mget_mem h)
      refine q_asg (e_get2 hdc5 (e_var rfl) (e_var rfl) e_int) fun H6 e6 => ?_
      generalize (mget tape pl).getD 0 = sy at hsy
      have e06 := e5.trans e6
      have rat6 := rat.mono e06
      have hk : st.toNat < prs.length := by rw [rat.ln]; omega
      obtain ⟨q0, q1, q2, q3, q4⟩ := rat6.al prs[st.toNat] (List.getElem_mem hk)
      have hk2 : sy.toNat < prs[st.toNat].2.length := by rw [q3]; omega
      have r4 := q4 prs[st.toNat].2[sy.toNat] (List.getElem_mem hk2)
      generalize hru : prs[st.toNat].2[sy.toNat] = ru at r4
      obtain ⟨r1, r2, r3, r5, r6⟩ := r4
      have hst : ((st.toNat : Nat) : Int) = st := by omega
      have hsy2 : ((sy.toNat : Nat) : Int) = sy := by omega
      have a1 : atI (prs.map fun q => D.r q.1) st = some (.r prs[st.toNat].1) := by
        have := atI_get (k := st.toNat) (by rw [List.getElem?_map, List.getElem?_eq_getElem hk]; rfl : (prs.map fun q => D.r q.1)[st.toNat]? = some (.r prs[st.toNat].1))
        rwa [hst] at this
      have a2 : atI (prs[st.toNat].2.map ruleD) sy = some (ruleD ru) := by
        have := atI_get (k := sy.toNat) (by rw [List.getElem?_map, List.getElem?_eq_getElem hk2, hru]; rfl : (prs[st.toNat].2.map ruleD)[sy.toNat]? = some (ruleD ru))
        rwa [hsy2] at this
      refine q_asg (e_ixL q2 a2 (e_ixL rat6.ls a1 (e_var rfl) (e_var rfl)) (e_var rfl)) fun H7 e7 => ?_
      have u0 : ∀ {g : Ga} {H : Hp} {te : TE}, Ev te g H (ruleD ru) → Ev (tOp (rIxT K) te (tC (.int 0))) g H (.i ru.1) := fun h => e_ixT rfl h e_int
      have u1 : ∀ {g : Ga} {H : Hp} {te : TE}, Ev te g H (ruleD ru) → Ev (tOp (rIxT K) te (tC (.int 1))) g H (.i ru.2.1) := fun h => e_ixT rfl h e_int
      have u2 : ∀ {g : Ga} {H : Hp} {te : TE}, Ev te g H (ruleD ru) → Ev (tOp (rIxT K) te (tC (.int 2))) g H (.i ru.2.2) := fun h => e_ixT rfl h e_int
      refine q_when (t_test (e_lt (u2 (e_var rfl)) e_int)) (fun hb H8 e8 => ?_) (fun hb H8 e8 => ?_)
      · exact s_ret (d := fpD (some (st, sy))) (e_tup (a_cons (e_var rfl) (a_cons (e_var rfl) a_nil)) (by show 2 ≤ sizeLine; decide)) fun H9 v e9 hv => k H9 v (some (st, sy)) (((e06.trans e7).trans e8).trans e9) hv fun i j h => by cases h; exact ⟨⟨st0, st1⟩, hsy⟩
      · have hn2 : ¬ ru.2.2 < 0 := of_decide_eq_false hb
        have e08 := (e06.trans e7).trans e8
        refine q_dput (((hdc5.mono e6).mono e7).mono e8) (lt100000 (by omega)) (u0 (e_var rfl)) (e_var rfl) (e_var rfl) fun H9 f9 hd9 => ?_
        have e09 : Same H H9 := f9.same e08 fun b hb => by rw [List.mem_singleton.mp hb]; exact hdn
        refine q_asg (e_add (e_var rfl) (u1 (e_var rfl))) fun Ha ea => ?_
        refine s_asg (u2 (e_var rfl)) fun Hb eb => n_lp ⟨_, _, _, _, _, _, rfl, (e09.trans ea).trans eb, (hd9.mono ea).mono eb, ?_, ⟨by omega, r6⟩, fun e he => ?_⟩
        · have := mput_len tape pl ru.1
          omega
        · rcases mput_mem he with ⟨_, z⟩ | z
          · rw [z]; exact ⟨r1, r2⟩
          · exact hvals e z
    · rintro g' H' ⟨tape, pl, st, o5, o6, o7, rfl, e5, hdc5, _⟩
      exact s_ret e_non fun H9 v e9 hv => k H9 v none (e5.trans e9) hv fun i j h => nomatch h

/-! ### _law_grown_machine -/
abbrev sLGrown : Stmt := top 34
theorem sc_lgrown : FnScope ["_law_stream_here", "_law_states", "_law_symbols", "_law_rows", "_law_k", "_law_found", "_law_row", "_law_s", "_law_x"] ["_law_stream_here"] (defScope sLGrown) := ⟨rfl, rfl, rfl, by decide +kernel, rfl, by decide +kernel, by decide +kernel⟩
def scLGrown1 : Scope := relS (lcSc (retE (stAt sLGrown 2))) (defScope sLGrown)
abbrev NLGrown : List Str := ["_law_stream_here", "_law_states", "_law_symbols", "_law_rows", "_law_k", "_law_found", "_law_row", "_law_s", "_law_x"]
def spLMach : Sp := fun vs H Q _ => ∃ S L : Addr, DTs H vs [.r S] ∧ StAt H S L ∧ ∀ H' v m B, Fr [S] H H' → StAt H' S L → MachOk m B → DT H' v (machD m) → Q v H'
def teLGrown : TE := tLc (iRng1 (tCons (tVar 2) tNil)) (gName 8) tYes (tTup (tCons (tC (.int 1)) (tCons (tC (.int 1)) (tCons (tUn (rU fun i => .int (-i)) (tC (.int 1))) tNil)))) [8]
theorem syms_of {i : Int} (h : 0 ≤ i ∧ i < 5) : ∃ j, atI [D.i 2, .i 2, .i 2, .i 3, .i 4] i = some (.i j) ∧ 2 ≤ j ∧ j ≤ 4 := by
  have : i = 0 ∨ i = 1 ∨ i = 2 ∨ i = 3 ∨ i = 4 := by omega
  rcases this with z | z | z | z | z <;> subst z
  · exact ⟨2, rfl, by decide, by decide⟩
  · exact ⟨2, rfl, by decide, by decide⟩
  · exact ⟨2, rfl, by decide, by decide⟩
  · exact ⟨3, rfl, by decide, by decide⟩
  · exact ⟨4, rfl, by decide, by decide⟩
theorem ok_lgrown {f : Addr} {fd : FuncData} (F : Fun K "_law_grown_machine" "_law_grown_machine" sLGrown f fd) (T : Tx K mg CR CS CF) (c_law_draw : Cal P w K mg base "_law_draw" 1 ["_law_stream_here", "_law_many"] spLDraw) (c_law_needed : Cal P w K mg base "_law_needed" 1 ["_law_rows", "_law_steps"] spLNeed) : FnOk P w K mg base CX0 2 f fd ["_law_stream_here"] spLMach := by
  refine F.ok sc_lgrown (fun vs H Q E h => ?_) (fun cdv A outer s H vs Q E hr h => ?_)
  · obtain ⟨_, _, hd, _⟩ := h
    exact hd.length
  · obtain ⟨S, L, hd, st, k⟩ := h
    have sc := sc_lgrown
    refine ⟨_, (pss_cons (ps_set (i := 1) sc.nd rfl (Or.inl rfl) (pe_op op_add pe_int (pe_callX c_law_draw (hr.mono (by decide)) rfl (pa_cons (pv 0) (pa_cons pe_int pa_nil)))))
    (pss_cons (ps_set (i := 2) sc.nd rfl (Or.inr rfl) (pe_ix ix_list (pe_lst (pa_cons pe_int (pa_cons pe_int (pa_cons pe_int (pa_cons pe_int (pa_cons pe_int pa_nil)))))) (pe_callX c_law_draw (hr.mono (by decide)) rfl (pa_cons (pv 0) (pa_cons pe_int pa_nil))) (fun _ _ => rfl)))
    (pss_cons ((ps_setLc (i := 3) (own := [("_law_s", 7)]) (g := gName 7) (tt := tYes) (te := teLGrown) rfl sc.nd rfl rfl rfl (pi_range1 rfl T.range (pa_cons (pv 1) pa_nil)) (blkOk_by (own := [("_law_s", 7)]) (N := NLGrown) (sc := defScope sLGrown) (by decide +kernel)) (fun _ _ _ _ _ => (pg_name (i := 7) sc.nd rfl (Or.inl rfl))) (fun _ _ _ _ _ => pts_nil) (fun _ _ _ _ _ => by exact (pe_lc (own := [("_law_x", 8)]) (tt := tYes) rfl sc.nd (pi_range1 rfl T.range (pa_cons (pv 2) pa_nil)) (blkOk_by (own := [("_law_x", 8)]) (N := NLGrown) (sc := scLGrown1) (by decide +kernel)) (fun _ _ _ _ _ => (pg_name (i := 8) sc.nd rfl (Or.inl rfl))) (fun _ _ _ _ _ => pts_nil) (fun _ _ _ _ _ => (pe_tup (pa_cons pe_int (pa_cons pe_int (pa_cons (pe_un un_neg pe_int) pa_nil)))))))))
    (pss_cons (ps_for PassesOwn.never rfl (pi_range1 rfl T.range (pa_cons (pe_op op_sub (pe_op op_mul (pv 1) (pv 2)) (pe_callX c_law_draw (hr.mono (by decide)) rfl (pa_cons (pv 0) (pa_cons pe_int pa_nil)))) pa_nil)) (pg_name (i := 4) sc.nd rfl (Or.inl rfl))
      (pss_cons (ps_set (i := 5) sc.nd rfl (Or.inl rfl) (pe_callX c_law_needed (hr.mono (by decide)) rfl (pa_cons (pv 3) (pa_cons pe_int pa_nil))))
      (pss_cons (ps_if (pt_cmpR op_isN (pv 5) pe_non (nomark _))
        (pss_one ps_break)
        pss_nil)
      (pss_cons (ps_set (i := 6) sc.nd rfl (Or.inl rfl) (pe_ix ix_list (pv 3) (pe_ix ix_tup (pv 5) pe_int (fun _ _ => rfl)) (fun _ _ => rfl)))
      (pss_one (ps_asg (pe_tup (pa_cons (pe_callX c_law_draw (hr.mono (by decide)) rfl (pa_cons (pv 0) (pa_cons (pv 2) pa_nil))) (pa_cons (pe_op op_sub (pe_op op_mul pe_int (pe_callX c_law_draw (hr.mono (by decide)) rfl (pa_cons (pv 0) (pa_cons pe_int pa_nil)))) pe_int) (pa_cons (pe_callX c_law_draw (hr.mono (by decide)) rfl (pa_cons (pv 0) (pa_cons (pv 1) pa_nil))) pa_nil)))) (pg_sub (pv 6) (pe_ix ix_tup (pv 5) pe_int (fun _ _ => rfl)) set_list)))))))
    (pss_one (ps_ret (pe_callTy call_tuple_of rfl T.tuple (by decide +kernel) (pa_cons (pe_lc (own := [("_law_row", 6)]) (g := gName 6) (tt := tYes) rfl sc.nd (pi_list (pv 3)) (blkOk_by (own := [("_law_row", 6)]) (N := NLGrown) (sc := defScope sLGrown) (by decide +kernel)) (fun _ _ _ _ _ => (pg_name (i := 6) sc.nd rfl (Or.inl rfl))) (fun _ _ _ _ _ => pts_nil) (te := tCB (rTupOf K) (tCons (tVar 6) tNil)) (fun _ _ _ _ _ => (pe_callTy call_tuple_of rfl T.tuple (by decide +kernel) (pa_cons (pv 6) pa_nil)))) pa_nil)))))))), ?_⟩
    refine q_start hd ?_
    obtain ⟨⟨oS, hoS⟩, oL, hoL⟩ := st.some
    have hneSL := st.1
    have zS : ∀ b ∈ [S], ∃ o, H b = some o := fun b hb => by rw [List.mem_singleton.mp hb]; exact ⟨_, hoS⟩
    refine q_asgM (EvI.m st (i_opL (i_draw ⟨by decide, by decide⟩ (a_cons (e_var rfl) (a_cons e_int a_nil))))) fun H1 d1 t1 ⟨ns, hd1, f1, st1, ns', ⟨hns0, hns4⟩, hns⟩ => ?_
    subst hd1
    refine q_asgM (EvI.m st1 (i_ixN (Y := fun j => 2 ≤ j ∧ j ≤ 4) (by show 5 ≤ sizeLine; decide) (a_cons e_int (a_cons e_int (a_cons e_int (a_cons e_int (a_cons e_int a_nil))))) (fun H2 e2 => i_draw ⟨by decide, by decide⟩ (a_cons (e_var rfl) (a_cons e_int a_nil))) fun i hi => syms_of hi)) fun H2 d2 t2 ⟨nb, hd2, f2, st2, hb2, hb4⟩ => ?_
    subst hd2
    obtain ⟨SN, hSN⟩ : ∃ SN : Nat, ns = (SN : Int) := ⟨ns.toNat, by omega⟩
    obtain ⟨BN, hBN⟩ : ∃ BN : Nat, nb = (BN : Int) := ⟨nb.toNat, by omega⟩
    subst hSN hBN
    have s1 : 1 ≤ SN := by omega
    have s4 : SN ≤ 4 := by omega
    have b2 : 2 ≤ BN := by omega
    have b4 : BN ≤ 4 := by omega
    have hSz : (sizeLine : Nat) = 16777216 := sizeLine_eq
    refine q_asgM (m_lcRN (vs := [7]) (n := (SN : Int)) (ds := (List.replicate BN ((1, 1, -1) : Rule)).map ruleD) (a_cons (e_var rfl) a_nil) ⟨by omega, by omega⟩ fun k H3 e3 hk => ⟨_, gw_name (by decide), ?_⟩) fun H3 d3 t3 ⟨R, as, hd3, e3, hRn, hRl, hasl, hasa⟩ => ?_
    · have := l_lcR (vs := [8]) (g := [some (.r S), some (.i (SN : Int)), some (.i (BN : Int)), none, none, none, none, some (.i (k : Int)), none]) (H := H3) (tl := tCons (tVar 2) tNil) (tg := gName 8) (t := tYes) (tb := tTup (tCons (tC (.int 1)) (tCons (tC (.int 1)) (tCons (tUn (rU fun i => .int (-i)) (tC (.int 1))) tNil)))) (n := (BN : Int)) (fun _ => true) (fun _ => ruleD (1, 1, -1)) (a_cons (e_var rfl) a_nil) ⟨by omega, by omega⟩ fun k2 H4 e4 hk2 => ⟨_, gw_name (by decide), t_yes, fun _ => e_tup (a_cons e_int (a_cons e_int (a_cons (e_neg e_int) a_nil))) (by show 3 ≤ sizeLine; decide)⟩
      rw [filt_all, List.map_map] at this
      have e : (List.range ((BN : Int)).toNat).map ((fun _ => ruleD (1, 1, -1)) ∘ fun (k : Nat) => (k : Int)) = (List.replicate BN ((1, 1, -1) : Rule)).map ruleD := by
        rw [List.map_replicate, show ((BN : Int)).toNat = BN by omega]
        refine List.ext_getElem? fun i => ?_
        rw [List.getElem?_map, List.getElem?_replicate]
        by_cases hi : i < BN
        · rw [List.getElem?_range hi, if_pos hi]; rfl
        · rw [List.getElem?_eq_none (by rw [List.length_range]; omega), if_neg hi]; rfl
      rw [e] at this
      exact this
    subst hd3
    have f02 := f1.trans f2
    have rat3 : RowsAt H H3 R (as.map fun a => (a, List.replicate BN ((1, 1, -1) : Rule))) SN BN := by
      refine ⟨f02.nn R hRn, ?_, by rw [List.length_map, hasl]; omega, fun q hq => ?_⟩
      · rw [List.map_map]; exact hRl
      · obtain ⟨a, ha, rfl⟩ := List.mem_map.mp hq
        obtain ⟨q1, q2, q3⟩ := hasa a ha
        refine ⟨f02.nn a q2, q1, q3, List.length_replicate, fun r hr => ?_⟩
        rw [List.eq_of_mem_replicate hr]
        exact ⟨by show (0 : Int) ≤ 1; decide, by show (1 : Int) < _; omega, .inl rfl, by show (-1 : Int) ≤ -1; decide, by show (-1 : Int) < _; omega⟩
    have st3 := st2.mono e3
    have f03 := f02.trans (Fr.of e3)
    have nSa : ∀ a, H a = none → S ≠ a ∧ L ≠ a := fun a ha => ⟨ne_of_none hoS ha, ne_of_none hoL ha⟩
    have frX : ∀ {H1 : Hp} {Z : List Addr}, (∀ b ∈ Z, b = S ∨ H b = none) → Fr Z H H1 → Fr [S] H H1 := fun hz f => ⟨fun b o hb hn => f.kp b o hb (fun z => by
      rcases hz b z with y | y
      · exact hn (by rw [y]; exact List.mem_cons_self)
      · rw [y] at hb; cases hb), f.tp, f.nn⟩
    have fin : ∀ (H' : Hp) (prs : List (Addr × List Rule)) (o4 o5 o6 : Option D), Fr [S] H H' → StAt H' S L → RowsAt H H' R prs SN BN → W (tRet (tCB (rTupOf K) (tCons (tLc (iList K (tVar 3)) (gName 6) tYes (tCB (rTupOf K) (tCons (tVar 6) tNil)) [6]) tNil))) { nx := fun x H' => Q V.non H', rt := Q } [some (.r S), some (.i (SN : Int)), some (.i (BN : Int)), some (.r R), o4, o5, o6, none, none] H' := fun H' prs o4 o5 o6 f5 st5 rat5 => by
      refine s_ret (d := machD (prs.map (·.2))) ((e_tupN (l_lcL (vs := [6]) (fun q : Addr × List Rule => D.r q.1) (fun _ => true) (fun q => rowD q.2) rat5.ls (e_var rfl) (lt100000 (by rw [rat5.ln]; omega)) fun k x H6 e6 hx => ⟨_, gw_name (by decide), t_yes, fun _ => e_tupL ((rat5.mono e6).al x (List.mem_of_getElem? hx)).2.2.1 (e_var rfl)⟩)).is ?_) fun H6 v e6 hv => k H6 v _ BN (f5.trans (Fr.of e6)) (st5.mono e6) (rat5.mach s1 s4 b2 b4) hv
      rw [filt_all]
      unfold machD
      rw [List.map_map]; rfl
    refine q_forRI st3 (X := fun n => -(2 ^ 62) ≤ n ∧ n ≤ 16) (fun st σ s Q q => (i_op (f := fun i j => i - j) (e_mul (.inl ⟨by omega, by omega⟩) (e_var rfl) (e_var rfl)) (fun H4 e4 => i_draw (n := 2) ⟨by decide, by decide⟩ (a_cons (e_var rfl) (a_cons e_int a_nil)))) st σ s Q fun H5 i f5 st5 ⟨j, hj, hi⟩ => q H5 i f5 st5 ?_) (fun n hn => ?_) fun H4 n f4 st4 hn => ⟨fun j g' H' => ∃ (prs : List (Addr × List Rule)) (o4 o5 o6 : Option D), g' = [some (.r S), some (.i (SN : Int)), some (.i (BN : Int)), some (.r R), o4, o5, o6, none, none] ∧ Fr [S] H H' ∧ StAt H' S L ∧ RowsAt H H' R prs SN BN, ⟨_, _, _, _, rfl, f03.trans f4, st4, rat3.fr f4 zS⟩, ?_, ?_⟩
    · obtain ⟨hj0, hj1⟩ := hj
      have h16 : (SN : Int) * (BN : Int) ≤ 16 := by
        have h1 : SN * BN ≤ 4 * 4 := Nat.mul_le_mul s4 b4
        have h2 : ((SN * BN : Nat) : Int) ≤ 16 := by omega
        rwa [Int.natCast_mul] at h2
      have h0 : 0 ≤ (SN : Int) * (BN : Int) := Int.mul_nonneg (by omega) (by omega)
      show (-(2 ^ 62) ≤ i ∧ i ≤ 16)
      rw [hi]
      constructor <;> omega
    · exact ⟨hn.1, by have := hn.2; omega⟩
    · rintro j g' H' hj ⟨prs, o4, o5, o6, rfl, f5, st5, rat5⟩
      refine ⟨_, g_name, ?_⟩
      refine q_asgM (m_call (R := fun d' H2 => ∃ o, d' = fpD o ∧ Same H' H2 ∧ ∀ i j, o = some (i, j) → (0 ≤ i ∧ i < (SN : Int)) ∧ 0 ≤ j ∧ j < (BN : Int)) (a_cons (e_var rfl) (a_cons e_int a_nil)) fun H6 vs e6 hvs Q2 q => ⟨H, R, prs, SN, BN, 80, hvs, rat5.mono e6, s1, by omega, by decide, fun H7 v o e7 hv ho => q H7 v _ (tpOf e7) hv ⟨o, rfl, e6.trans e7, ho⟩⟩) fun H6 d6 t6 ⟨o, hd6, e6, ho⟩ => ?_
      subst hd6
      cases o with
      | none =>
        refine q_when (t_test (e_isN (d := .n) (e_var rfl))) (fun hb H7 e7 => ?_) (fun hb H7 e7 => Bool.noConfusion (show true = false from hb))
        exact s_break fun σ s => fin H7 prs _ _ _ (f5.trans (Fr.of (e6.trans e7))) ((st5.mono e6).mono e7) ((rat5.mono e6).mono e7) σ s
      | some x =>
        obtain ⟨i0, j0⟩ := x
        obtain ⟨⟨hi0, hi1⟩, hj0, hj1⟩ := ho i0 j0 rfl
        refine q_when (t_test (e_isN (d := fpD (some (i0, j0))) (e_var rfl))) (fun hb H7 e7 => Bool.noConfusion (show false = true from hb)) (fun hb H7 e7 => ?_)
        have e67 := e6.trans e7
        have rat7 := rat5.mono e67
        have hk : i0.toNat < prs.length := by rw [rat7.ln]; omega
        obtain ⟨q0, q1, q2, q3, q4⟩ := rat7.al prs[i0.toNat] (List.getElem_mem hk)
        generalize hpr : prs[i0.toNat] = pr at q0 q1 q2 q3 q4
        obtain ⟨a, row⟩ := pr
        have a1 : atI (prs.map fun q => D.r q.1) i0 = some (.r a) := by
          have := atI_get (k := i0.toNat) (by rw [List.getElem?_map, List.getElem?_eq_getElem hk, hpr]; rfl : (prs.map fun q => D.r q.1)[i0.toNat]? = some (.r a))
          rwa [show ((i0.toNat : Nat) : Int) = i0 by omega] at this
        have f07 : Fr [S] H H7 := f5.trans (Fr.of e67)
        refine q_asg (e_ixL rat7.ls a1 (e_var rfl) (e_ixT (d := .i i0) (i := 0) rfl (e_var (d := fpD (some (i0, j0))) rfl) e_int)) fun H8 e8 => ?_
        have st8 := (st5.mono e67).mono e8
        have rat8 := rat7.mono e8
        refine s_setLM (i_tup3 st8 (i_draw ⟨by omega, by omega⟩ (a_cons (e_var rfl) (a_cons (e_var rfl) a_nil))) (fun H9 f9 => i_opR (f := fun i j => i - j) (i_mulL ⟨by decide, by decide⟩ (i_draw (n := 2) ⟨by decide, by decide⟩ (a_cons (e_var rfl) (a_cons e_int a_nil))))) (fun H9 f9 => i_draw ⟨by omega, by omega⟩ (a_cons (e_var rfl) (a_cons (e_var rfl) a_nil)))) fun H9 d9 t9 ⟨x, y, z, hd9, f9, st9, ⟨hx0, hx1⟩, ⟨y1, ⟨y2, ⟨hy0, hy1⟩, hy2⟩, hy⟩, hz0, hz1⟩ => ?_
        subst hd9
        have rat9 := rat8.fr f9 zS
        have hql := (rat9.al prs[i0.toNat] (List.getElem_mem hk)).2.2.1
        rw [hpr] at hql
        refine ⟨a, row.map ruleD, j0, j0.toNat, hql, ixN_of hj0 (by rw [List.length_map, q3]; exact hj1), e_var rfl, e_ixT (d := .i j0) (i := 1) rfl (e_var (d := fpD (some (i0, j0))) rfl) e_int, fun Ha fa hla => ?_⟩
        obtain ⟨nSa1, nLa1⟩ := nSa a q0
        have hrule : RlOk SN BN (x, y, z) := ⟨hx0, hx1, by show y = 1 ∨ y = -1; omega, by show -1 ≤ z; omega, hz1⟩
        have f0a : Fr [S] H Ha := by
          refine frX (Z := [S, a]) (fun b hb => ?_) (((f07.trans (Fr.of e8)).trans f9).sub sub1 |>.trans (fa.sub sub2))
          rcases List.mem_cons.mp hb with y | y
          · exact .inl y
          · rw [List.mem_singleton.mp y]; exact .inr q0
        refine n_lp ⟨prs.map (fun q => if q.1 = a then (q.1, row.set j0.toNat (x, y, z)) else q), _, _, _, rfl, f0a, st9.fr fa (by simpa using nSa1) (by simpa using nLa1), ⟨rat9.rn, ?_, by rw [List.length_map]; exact rat9.ln, fun q hq => ?_⟩⟩
        · have e : ((prs.map (fun q => if q.1 = a then (q.1, row.set j0.toNat (x, y, z)) else q)).map fun q => D.r q.1) = prs.map fun q => D.r q.1 := by
            rw [List.map_map]
            refine List.map_congr_left fun q _ => ?_
            show D.r (if q.1 = a then (q.1, row.set j0.toNat (x, y, z)) else q).1 = D.r q.1
            split <;> rfl
          rw [e]
          exact rat9.ls.fr fa (by simpa using q1)
        · obtain ⟨p0, hp0, rfl⟩ := List.mem_map.mp hq
          obtain ⟨r0, r1, r2, r3, r4⟩ := rat9.al p0 hp0
          by_cases hpa : p0.1 = a
          · rw [if_pos hpa]
            refine ⟨r0, r1, ?_, by rw [List.length_set]; exact q3, fun r hr => ?_⟩
            · show LsD Ha p0.1 ((row.set j0.toNat (x, y, z)).map ruleD)
              rw [hpa, List.map_set]
              exact hla
            · rcases List.mem_or_eq_of_mem_set hr with y | y
              · exact q4 r y
              · rw [y]; exact hrule
          · rw [if_neg hpa]
            exact ⟨r0, r1, r2.fr fa (by simpa using hpa), r3, r4⟩
    · rintro g' H' ⟨prs, o4, o5, o6, rfl, f5, st5, rat5⟩
      exact fin H' prs _ _ _ f5 st5 rat5
end
end Tac

namespace Tac
/-! ### what the law itself computes -/
def rngR (s : Int) (h : Int → Rule) : List Rule := (List.range (s - 1).toNat).map fun (j : Nat) => h (1 + (j : Int))
def swM0 (s k b : Int) : Mach := [(k, -1, 1) :: rngR s (fun x => (x, 1, 0)), (k * b, 1, 0) :: rngR s (fun x => (x, -1, 1))]
def swM (s k b : Int) (f : Bool) : Mach := sidedM (swM0 s k b) f
def swS (k b : Int) (f : Bool) : Shp := ⟨f, 0, [[], []], [rep (1 + b).toNat [k]], 1⟩
/-- the number from which a sweeper is found, after j turns of the law's loop -/
def sweepGo (m : Mach) (sh : Shp) : Nat → Nat
  | 0 => 8
  | j + 1 => if hasShape m (7 - j) sh = true then 7 - j else sweepGo m sh j
def cntGo (own : Mach) (sh : Shp) : Nat → Nat → Int → Int
  | 0, _, num => num
  | f + 1, at_, num => cntGo own sh f (at_ + 1) (if isAt (Rn.run own at_ rn0) sh (num + 1) = true then num + 1 else num)
structure LawFacts : Prop where
  never : ∀ {m : Mach} {B n : Nat} {sh : Shp}, MachOk m B → ShpOk sh m.length B → n ≤ 400 → hasShape m n sh = true → ∀ k, (Rn.run (sidedM m sh.flip) k rn0).state ≠ -1
  at0 : ∀ {m : Mach} {B n : Nat} {sh : Shp}, MachOk m B → ShpOk sh m.length B → n ≤ 400 → hasShape m n sh = true → isAt (Rn.run (sidedM m sh.flip) n rn0) sh sh.first = true
  mir : ∀ (m : Mach) (n : Nat) (sh : Shp), hasShape (mirr m) n ⟨!sh.flip, sh.st, sh.words, sh.reps, sh.first⟩ = hasShape m n sh
  sw : ∀ {s k b : Int} {f : Bool}, (2 ≤ s ∧ s ≤ 4) → (1 ≤ k ∧ k < s) → (0 ≤ b ∧ b ≤ 1) → ∃ B, MachOk (swM s k b f) B ∧ ShpOk (swS k b f) (swM s k b f).length B ∧ sweepGo (swM s k b f) (swS k b f) 8 ≤ 8 ∧
    hasShape (swM s k b f) (sweepGo (swM s k b f) (swS k b f) 8) (swS k b f) = true ∧ cntGo (sidedM (swM s k b f) (swS k b f).flip) (swS k b f) (400 - sweepGo (swM s k b f) (swS k b f) 8) (sweepGo (swM s k b f) (swS k b f) 8 + 1) (swS k b f).first > (swS k b f).first + 5
end Tac

namespace Tac
open PySem PySem.Spec PyProof.Rows L2
section
variable {P : Program} {w : World} {K : PySem.W.Frag} {mg : Str → Option Value} {base : Heap} {CR CS CF : Addr}

/-! ### _law_machine -/
abbrev sLMach : Stmt := top 35
theorem sc_lmach : FnScope ["_law_stream_here", "_law_states", "_law_symbols", "_law_stops", "_law_rows", "_law_s", "_law_rules", "_law_x", "_law_state"] ["_law_stream_here"] (defScope sLMach) := ⟨rfl, rfl, rfl, by decide +kernel, rfl, by decide +kernel, by decide +kernel⟩
theorem ok_lmach {f : Addr} {fd : FuncData} (F : Fun K "_law_machine" "_law_machine" sLMach f fd) (T : Tx K mg CR CS CF) (c_law_draw : Cal P w K mg base "_law_draw" 1 ["_law_stream_here", "_law_many"] spLDraw) (c_law_grown_machine : Cal P w K mg base "_law_grown_machine" 2 ["_law_stream_here"] spLMach) : FnOk P w K mg base CX0 3 f fd ["_law_stream_here"] spLMach := by
  refine F.ok sc_lmach (fun vs H Q E h => ?_) (fun cdv A outer s H vs Q E hr h => ?_)
  · obtain ⟨_, _, hd, _⟩ := h
    exact hd.length
  · obtain ⟨S, L, hd, st, k⟩ := h
    have sc := sc_lmach
    refine ⟨_, (pss_cons (ps_if (pt_cmpR op_eq (pe_callX c_law_draw (hr.mono (by decide)) rfl (pa_cons (pv 0) (pa_cons pe_int pa_nil))) pe_int (nomark _))
      (pss_one (ps_ret (pe_callX c_law_grown_machine (hr.mono (by decide)) rfl (pa_cons (pv 0) pa_nil))))
      pss_nil)
    (pss_cons (ps_set (i := 1) sc.nd rfl (Or.inl rfl) (pe_ix ix_list (pe_lst (pa_cons pe_int (pa_cons pe_int (pa_cons pe_int (pa_cons pe_int (pa_cons pe_int (pa_cons pe_int pa_nil))))))) (pe_callX c_law_draw (hr.mono (by decide)) rfl (pa_cons (pv 0) (pa_cons pe_int pa_nil))) (fun _ _ => rfl)))
    (pss_cons (ps_set (i := 2) sc.nd rfl (Or.inl rfl) (pe_ix ix_list (pe_lst (pa_cons pe_int (pa_cons pe_int (pa_cons pe_int (pa_cons pe_int (pa_cons pe_int pa_nil)))))) (pe_callX c_law_draw (hr.mono (by decide)) rfl (pa_cons (pv 0) (pa_cons pe_int pa_nil))) (fun _ _ => rfl)))
    (pss_cons (ps_set (i := 3) sc.nd rfl (Or.inl rfl) (pe_ix ix_list (pe_lst (pa_cons pe_int (pa_cons pe_int (pa_cons pe_int pa_nil)))) (pe_callX c_law_draw (hr.mono (by decide)) rfl (pa_cons (pv 0) (pa_cons pe_int pa_nil))) (fun _ _ => rfl)))
    (pss_cons (ps_set (i := 4) sc.nd rfl (Or.inl rfl) (pe_lst pa_nil))
    (pss_cons (ps_for PassesOwn.never rfl (pi_range1 rfl T.range (pa_cons (pv 1) pa_nil)) (pg_name (i := 5) sc.nd rfl (Or.inl rfl))
      (pss_cons (ps_set (i := 6) sc.nd rfl (Or.inl rfl) (pe_lst pa_nil))
      (pss_cons (ps_for PassesOwn.never rfl (pi_range1 rfl T.range (pa_cons (pv 2) pa_nil)) (pg_name (i := 7) sc.nd rfl (Or.inl rfl))
        (pss_cons (ps_set (i := 8) sc.nd rfl (Or.inl rfl) (pe_callX c_law_draw (hr.mono (by decide)) rfl (pa_cons (pv 0) (pa_cons (pv 1) pa_nil))))
        (pss_cons (ps_if (pt_cmpR op_eq (pe_callX c_law_draw (hr.mono (by decide)) rfl (pa_cons (pv 0) (pa_cons (pv 3) pa_nil))) pe_int (nomark _))
          (pss_one (ps_set (i := 8) sc.nd rfl (Or.inl rfl) (pe_un un_neg pe_int)))
          pss_nil)
        (pss_one (ps_expr (pe_bm PySem.F.plainAttrs_list PySem.F.slot_list_append PySem.F.type_list_append mt_append (pv 6) (pa_cons (pe_tup (pa_cons (pe_callX c_law_draw (hr.mono (by decide)) rfl (pa_cons (pv 0) (pa_cons (pv 2) pa_nil))) (pa_cons (pe_op op_sub (pe_op op_mul pe_int (pe_callX c_law_draw (hr.mono (by decide)) rfl (pa_cons (pv 0) (pa_cons pe_int pa_nil)))) pe_int) (pa_cons (pv 8) pa_nil)))) pa_nil)))))))
      (pss_one (ps_expr (pe_bm PySem.F.plainAttrs_list PySem.F.slot_list_append PySem.F.type_list_append mt_append (pv 4) (pa_cons (pe_callTy call_tuple_of rfl T.tuple (by decide +kernel) (pa_cons (pv 6) pa_nil)) pa_nil)))))))
    (pss_one (ps_ret (pe_callTy call_tuple_of rfl T.tuple (by decide +kernel) (pa_cons (pv 4) pa_nil)))))))))), ?_⟩
    refine q_start hd ?_
    obtain ⟨⟨oS, hoS⟩, oL, hoL⟩ := st.some
    have nSa : ∀ a, H a = none → S ≠ a ∧ L ≠ a := fun a ha => ⟨ne_of_none hoS ha, ne_of_none hoL ha⟩
    have frX : ∀ {H1 : Hp} {Z : List Addr}, (∀ b ∈ Z, b = S ∨ H b = none) → Fr Z H H1 → Fr [S] H H1 := fun hz f => ⟨fun b o hb hn => f.kp b o hb (fun z => by
      rcases hz b z with y | y
      · exact hn (by rw [y]; exact List.mem_cons_self)
      · rw [y] at hb; cases hb), f.tp, f.nn⟩
    refine q_whenM (i_eq0 st (i_draw (n := 2) ⟨by decide, by decide⟩ (a_cons (e_var rfl) (a_cons e_int a_nil)))) (fun H1 t1 ⟨i, hb, f1, st1, hi⟩ => ?_) (fun H1 t1 ⟨i, hb, f1, st1, hi⟩ => ?_)
    · exact s_retM (m_call (R := fun d' H2 => ∃ m B, d' = machD m ∧ Fr [S] H1 H2 ∧ StAt H2 S L ∧ MachOk m B) (a_cons (e_var rfl) a_nil) fun H2 vs e2 hvs Q2 q => ⟨S, L, hvs, st1.mono e2, fun H3 v m B f3 st3 mo hv => q H3 v _ f3.tp hv ⟨m, B, rfl, (Fr.of e2).trans f3, st3, mo⟩⟩) fun H2 v d2 t2 hv ⟨m, B, hd2, f2, st2, mo⟩ => by
        subst hd2
        exact k H2 v m B (f1.trans f2) st2 mo hv
    · refine q_asgM (EvI.m st1 (i_ixN (Y := fun j => 1 ≤ j ∧ j ≤ 4) (ds := [.i 2, .i 3, .i 2, .i 3, .i 1, .i 4]) (by show 6 ≤ sizeLine; decide) (a_cons e_int (a_cons e_int (a_cons e_int (a_cons e_int (a_cons e_int (a_cons e_int a_nil)))))) (fun H2 e2 => i_draw (n := 6) ⟨by decide, by decide⟩ (a_cons (e_var rfl) (a_cons e_int a_nil))) fun i hi => ?_)) fun H2 d2 t2 ⟨ns, hd2, f2, st2, hs1, hs4⟩ => ?_
      · have : i = 0 ∨ i = 1 ∨ i = 2 ∨ i = 3 ∨ i = 4 ∨ i = 5 := by omega
        rcases this with z | z | z | z | z | z <;> subst z
        · exact ⟨2, rfl, by decide, by decide⟩
        · exact ⟨3, rfl, by decide, by decide⟩
        · exact ⟨2, rfl, by decide, by decide⟩
        · exact ⟨3, rfl, by decide, by decide⟩
        · exact ⟨1, rfl, by decide, by decide⟩
        · exact ⟨4, rfl, by decide, by decide⟩
      subst hd2
      refine q_asgM (EvI.m st2 (i_ixN (Y := fun j => 2 ≤ j ∧ j ≤ 4) (by show 5 ≤ sizeLine; decide) (a_cons e_int (a_cons e_int (a_cons e_int (a_cons e_int (a_cons e_int a_nil))))) (fun H2 e2 => i_draw ⟨by decide, by decide⟩ (a_cons (e_var rfl) (a_cons e_int a_nil))) fun i hi => syms_of hi)) fun H3 d3 t3 ⟨nb, hd3, f3, st3, hb2, hb4⟩ => ?_
      subst hd3
      refine q_asgM (EvI.m st3 (i_ixN (Y := fun j => 1 ≤ j ∧ j ≤ 1000) (ds := [.i 20, .i 6, .i 9]) (by show 3 ≤ sizeLine; decide) (a_cons e_int (a_cons e_int (a_cons e_int a_nil))) (fun H2 e2 => i_draw (n := 3) ⟨by decide, by decide⟩ (a_cons (e_var rfl) (a_cons e_int a_nil))) fun i hi => ?_)) fun H4 d4 t4 ⟨np, hd4, f4, st4, hp1, hp2⟩ => ?_
      · have : i = 0 ∨ i = 1 ∨ i = 2 := by omega
        rcases this with z | z | z <;> subst z
        · exact ⟨20, rfl, by decide, by decide⟩
        · exact ⟨6, rfl, by decide, by decide⟩
        · exact ⟨9, rfl, by decide, by decide⟩
      subst hd4
      obtain ⟨SN, hSN⟩ : ∃ SN : Nat, ns = (SN : Int) := ⟨ns.toNat, by omega⟩
      obtain ⟨BN, hBN⟩ : ∃ BN : Nat, nb = (BN : Int) := ⟨nb.toNat, by omega⟩
      subst hSN hBN
      have s1 : 1 ≤ SN := by omega
      have s4 : SN ≤ 4 := by omega
      have b2 : 2 ≤ BN := by omega
      have b4 : BN ≤ 4 := by omega
      have f04 := ((f1.trans f2).trans f3).trans f4
      refine q_asgL (l_lst a_nil (by show 0 ≤ sizeLine; decide)) fun H5 R e5 hRn' hR5 => ?_
      have hRn : H R = none := f04.nn R hRn'
      obtain ⟨nSR, nLR⟩ := nSa R hRn
      refine q_forR (n := (SN : Int)) (a_cons (e_var rfl) a_nil) ⟨by omega, by omega⟩ fun H6 e6 => ⟨fun j g' H' => ∃ (rs : List (List Rule)) (o5 o6 o7 o8 : Option D), g' = [some (.r S), some (.i (SN : Int)), some (.i (BN : Int)), some (.i np), some (.r R), o5, o6, o7, o8] ∧ Fr [S] H H' ∧ StAt H' S L ∧ LsD H' R (rs.map rowD) ∧ rs.length = j ∧ j ≤ SN ∧ ∀ row ∈ rs, row.length = BN ∧ ∀ r ∈ row, RlOk SN BN r,
        ⟨[], _, _, _, _, rfl, (f04.trans (Fr.of e5)).trans (Fr.of e6), (st4.mono e5).mono e6, hR5.mono e6, rfl, Nat.zero_le _, fun row h => nomatch h⟩, ?_, ?_⟩
      · rintro j g' H' hj ⟨rs, o5, o6, o7, o8, rfl, f7, st7, hR7, hrl, hjS, hrs⟩
        refine ⟨_, g_name, ?_⟩
        refine q_asgL (l_lst a_nil (by show 0 ≤ sizeLine; decide)) fun H8 C e8 hCn' hC8 => ?_
        have hCn : H C = none := f7.nn C hCn'
        obtain ⟨nSC, nLC⟩ := nSa C hCn
        have nRC : R ≠ C := hR7.ne2 hCn'
        have f08 := f7.trans (Fr.of e8)
        have hR8 := hR7.mono e8
        refine q_forR (n := (BN : Int)) (a_cons (e_var rfl) a_nil) ⟨by omega, by omega⟩ fun H9 e9 => ⟨fun i g' H' => ∃ (row : List Rule) (o7 o8 : Option D), g' = [some (.r S), some (.i (SN : Int)), some (.i (BN : Int)), some (.i np), some (.r R), some (.i (j : Int)), some (.r C), o7, o8] ∧ Fr [S] H H' ∧ StAt H' S L ∧ LsD H' R (rs.map rowD) ∧ LsD H' C (row.map ruleD) ∧ row.length = i ∧ i ≤ BN ∧ ∀ r ∈ row, RlOk SN BN r,
          ⟨[], _, _, rfl, f08.trans (Fr.of e9), (st7.mono e8).mono e9, hR8.mono e9, hC8.mono e9, rfl, Nat.zero_le _, fun r h => nomatch h⟩, ?_, ?_⟩
        · rintro i g' H' hi ⟨row, o7, o8, rfl, fa, sta, hRa, hCa, hrwl, hiB, hrow⟩
          refine ⟨_, g_name, ?_⟩
          refine q_asgM (EvI.m sta (i_draw ⟨by omega, by omega⟩ (a_cons (e_var rfl) (a_cons (e_var rfl) a_nil)))) fun Hb db tb ⟨x, hdb, fb, stb, hx0, hx1⟩ => ?_
          subst hdb
          refine q_ifMR (fun g' H'' => ∃ y : Int, g' = [some (.r S), some (.i (SN : Int)), some (.i (BN : Int)), some (.i np), some (.r R), some (.i (j : Int)), some (.r C), some (.i (i : Int)), some (.i y)] ∧ Fr [S] H' H'' ∧ StAt H'' S L ∧ -1 ≤ y ∧ y < SN) (i_eq0 stb (i_draw ⟨hp1, hp2⟩ (a_cons (e_var rfl) (a_cons (e_var rfl) a_nil)))) ?_ (fun Hc tc ⟨z, _, fc, stc, _⟩ kk => ?_) (fun Hc tc ⟨z, _, fc, stc, _⟩ kk => ?_)
          · rintro g' Hc ⟨y, rfl, fc, stc, hy0, hy1⟩
            have hRc := hRa.fr fc (by simpa using nSR.symm)
            have hCc := hCa.fr fc (by simpa using nSC.symm)
            refine s_appM (R := fun d' H2 => ∃ u v, d' = .t [.i u, .i v, .i y] ∧ Fr [S] Hc H2 ∧ StAt H2 S L ∧ (0 ≤ u ∧ u < BN) ∧ (v = 1 ∨ v = -1)) hCc (by rw [List.length_map]; exact lt100000 (by omega)) (e_var rfl) (fun Hd ed => EvM.imp (i_tup3 (stc.mono ed) (i_draw ⟨by omega, by omega⟩ (a_cons (e_var rfl) (a_cons (e_var rfl) a_nil))) (fun H9 f9 => i_opR (f := fun i j => i - j) (i_mulL ⟨by decide, by decide⟩ (i_draw (n := 2) ⟨by decide, by decide⟩ (a_cons (e_var rfl) (a_cons e_int a_nil))))) (fun H9 f9 => i_ev (e_var rfl))) fun d2 H2 ⟨u, v, w', hd2, f2, st2, hu, ⟨v1, ⟨v2, ⟨hv0, hv1⟩, hv2⟩, hv⟩, hw⟩ => ⟨u, v, by rw [hd2, hw], (Fr.of ed).trans f2, st2, hu, by omega⟩) fun Hd dd ⟨u, v, hdd, fd', std, ⟨hu0, hu1⟩, hv⟩ => ⟨hCc.fr fd' (by simpa using nSC.symm), fun He fe hCe => ?_⟩
            subst hdd
            have f0e : Fr [S] H He := by
              refine frX (Z := [S, C]) (fun b hb => ?_) (((fa.trans fc).trans fd').sub sub1 |>.trans (fe.sub sub2))
              rcases List.mem_cons.mp hb with y | y
              · exact .inl y
              · rw [List.mem_singleton.mp y]; exact .inr hCn
            refine n_lp ⟨row ++ [(u, v, y)], _, _, rfl, f0e, std.fr fe (by simpa using nSC) (by simpa using nLC), (hRc.fr fd' (by simpa using nSR.symm)).fr fe (by simpa using nRC), ?_, by rw [List.length_append, hrwl]; rfl, by omega, fun r hr => ?_⟩
            · rw [List.map_append]; exact hCe
            · rcases List.mem_append.mp hr with y | y
              · exact hrow r y
              · rw [List.mem_singleton.mp y]
                exact ⟨hu0, hu1, hv, hy0, hy1⟩
          · exact s_asg (e_neg e_int) fun Hd ed => kk _ Hd ⟨-1, rfl, (fb.trans fc).trans (Fr.of ed), stc.mono ed, by decide, by omega⟩
          · exact fun σ s => kk _ Hc ⟨x, rfl, fb.trans fc, stc, by omega, hx1⟩ σ s
        · rintro g' H' ⟨row, o7, o8, rfl, fa, sta, hRa, hCa, hrwl, hiB, hrow⟩
          refine s_app hRa (by rw [List.length_map]; exact lt100000 (by omega)) (e_var rfl) (e_tupL hCa (e_var rfl)) fun Hb fb hRb => n_lp ⟨rs ++ [row], _, _, _, _, rfl, ?_, sta.fr fb (by simpa using nSR) (by simpa using nLR), ?_, by rw [List.length_append, hrl]; rfl, by omega, fun r hr => ?_⟩
          · refine frX (Z := [S, R]) (fun b hb => ?_) (fa.sub sub1 |>.trans (fb.sub sub2))
            rcases List.mem_cons.mp hb with y | y
            · exact .inl y
            · rw [List.mem_singleton.mp y]; exact .inr hRn
          · rw [List.map_append]; exact hRb
          · rcases List.mem_append.mp hr with y | y
            · exact hrs r y
            · rw [List.mem_singleton.mp y]
              exact ⟨by rw [hrwl]; omega, hrow⟩
      · rintro g' H' ⟨rs, o5, o6, o7, o8, rfl, f7, st7, hR7, hrl, hjS, hrs⟩
        have hl : rs.length = SN := by rw [hrl]; omega
        exact s_ret (d := machD rs) (e_tupL hR7 (e_var rfl)) fun H8 v e8 hv => k H8 v rs BN (f7.trans (Fr.of e8)) (st7.mono e8) ⟨by omega, by omega, b2, b4, fun row hr => (hrs row hr).1, fun row hr r hx => by rw [hl]; exact (hrs row hr).2 r hx⟩ hv

/-! ### _law_sweeper -/
abbrev sLSweep : Stmt := top 41
abbrev NSweep : List Str := ["_law_stream_here", "_law_symbols", "_law_mark", "_law_both", "_law_ahead", "_law_back", "_law_machine_here", "_law_shape", "_law_x", "_law_row", "_law_rule"]
theorem sc_lsweep : FnScope NSweep ["_law_stream_here"] (defScope sLSweep) := ⟨rfl, rfl, rfl, by decide +kernel, rfl, by decide +kernel, by decide +kernel⟩
def spLSweep : Sp := fun vs H Q _ => ∃ S L : Addr, DTs H vs [.r S] ∧ StAt H S L ∧ ∀ H' l (s k b : Int) (f : Bool), Fr [S] H H' → StAt H' S L → H l = none → (2 ≤ s ∧ s ≤ 4) → (1 ≤ k ∧ k < s) → (0 ≤ b ∧ b ≤ 1) → LsD H' l [machD (swM s k b f), shD (swS k b f)] → Q (.ref l) H'
def ifSt (st : Stmt) (i : Nat) : Stmt := match st with
  | .If _ body _ _ => body.getD i (.Pass ⟨0, 0, 0, 0⟩)
  | s => s
def scSweep1 : Scope := relS (lcSc (arg0 (retE (ifSt (stAt sLSweep 7) 0)))) (defScope sLSweep)
theorem ok_lsweep {f : Addr} {fd : FuncData} (F : Fun K "_law_sweeper" "_law_sweeper" sLSweep f fd) (T : Tx K mg CR CS CF) (c_law_draw : Cal P w K mg base "_law_draw" 1 ["_law_stream_here", "_law_many"] spLDraw) : FnOk P w K mg base CX0 2 f fd ["_law_stream_here"] spLSweep := by
  refine F.ok sc_lsweep (fun vs H Q E h => ?_) (fun cdv A outer s H vs Q E hr h => ?_)
  · obtain ⟨_, _, hd, _⟩ := h
    exact hd.length
  · obtain ⟨S, L, hd, st, kk⟩ := h
    have sc := sc_lsweep
    refine ⟨_, (pss_cons (ps_set (i := 1) sc.nd rfl (Or.inl rfl) (pe_op op_add pe_int (pe_callX c_law_draw (hr.mono (by decide)) rfl (pa_cons (pv 0) (pa_cons pe_int pa_nil)))))
    (pss_cons (ps_set (i := 2) sc.nd rfl (Or.inl rfl) (pe_op op_add pe_int (pe_callX c_law_draw (hr.mono (by decide)) rfl (pa_cons (pv 0) (pa_cons (pe_op op_sub (pv 1) pe_int) pa_nil)))))
    (pss_cons (ps_set (i := 3) sc.nd rfl (Or.inl rfl) (pe_callX c_law_draw (hr.mono (by decide)) rfl (pa_cons (pv 0) (pa_cons pe_int pa_nil))))
    (pss_cons (ps_set (i := 4) sc.nd rfl (Or.inl rfl) (pe_op op_cat (pe_lst (pa_cons (pe_tup (pa_cons (pv 2) (pa_cons (pe_un un_neg pe_int) (pa_cons pe_int pa_nil)))) pa_nil)) (pe_lc (own := [("_law_x", 8)]) (g := gName 8) (tt := tYes) rfl sc.nd (pi_range2 rfl T.range (pa_cons pe_int (pa_cons (pv 1) pa_nil))) (blkOk_by (own := [("_law_x", 8)]) (N := NSweep) (sc := defScope sLSweep) (by decide +kernel)) (fun _ _ _ _ _ => (pg_name (i := 8) sc.nd rfl (Or.inl rfl))) (fun _ _ _ _ _ => pts_nil) (fun _ _ _ _ _ => (pe_tup (pa_cons (pv 8) (pa_cons pe_int (pa_cons pe_int pa_nil))))))))
    (pss_cons (ps_set (i := 5) sc.nd rfl (Or.inl rfl) (pe_op op_cat (pe_lst (pa_cons (pe_tup (pa_cons (pe_op op_mul (pv 2) (pv 3)) (pa_cons pe_int (pa_cons pe_int pa_nil)))) pa_nil)) (pe_lc (own := [("_law_x", 8)]) (g := gName 8) (tt := tYes) rfl sc.nd (pi_range2 rfl T.range (pa_cons pe_int (pa_cons (pv 1) pa_nil))) (blkOk_by (own := [("_law_x", 8)]) (N := NSweep) (sc := defScope sLSweep) (by decide +kernel)) (fun _ _ _ _ _ => (pg_name (i := 8) sc.nd rfl (Or.inl rfl))) (fun _ _ _ _ _ => pts_nil) (fun _ _ _ _ _ => (pe_tup (pa_cons (pv 8) (pa_cons (pe_un un_neg pe_int) (pa_cons pe_int pa_nil))))))))
    (pss_cons (ps_set (i := 6) sc.nd rfl (Or.inl rfl) (pe_tup (pa_cons (pe_callTy call_tuple_of rfl T.tuple (by decide +kernel) (pa_cons (pv 4) pa_nil)) (pa_cons (pe_callTy call_tuple_of rfl T.tuple (by decide +kernel) (pa_cons (pv 5) pa_nil)) pa_nil))))
    (pss_cons (ps_set (i := 7) sc.nd rfl (Or.inl rfl) (pe_tup (pa_cons pe_bl (pa_cons pe_int (pa_cons (pe_tup (pa_cons (pe_tup pa_nil) (pa_cons (pe_tup pa_nil) pa_nil))) (pa_cons (pe_tup (pa_cons (pe_op op_mulA (pe_tup (pa_cons (pv 2) pa_nil)) (pe_op op_add pe_int (pv 3))) pa_nil)) (pa_cons pe_int pa_nil)))))))
    (pss_cons (ps_if (pt_cmpR op_eq (pe_callX c_law_draw (hr.mono (by decide)) rfl (pa_cons (pv 0) (pa_cons pe_int pa_nil))) pe_int (nomark _))
      (pss_cons (ps_set (i := 6) sc.nd rfl (Or.inl rfl) (pe_callTy call_tuple_of rfl T.tuple (by decide +kernel) (pa_cons (pe_lc (own := [("_law_row", 9)]) (g := gName 9) (tt := tYes) (te := teLMirr K 9 10) rfl sc.nd (pi_tup (pv 6)) (blkOk_by (own := [("_law_row", 9)]) (N := NSweep) (sc := defScope sLSweep) (by decide +kernel)) (fun _ _ _ _ _ => (pg_name (i := 9) sc.nd rfl (Or.inl rfl))) (fun _ _ _ _ _ => pts_nil) (fun _ _ _ _ _ => by exact (pe_callTy call_tuple_of rfl T.tuple (by decide +kernel) (pa_cons (pe_lc (own := [("_law_rule", 10)]) (tt := tYes) rfl sc.nd (pi_tup (pv 9)) (blkOk_by (own := [("_law_rule", 10)]) (N := NSweep) (sc := scSweep1) (by decide +kernel)) (fun _ _ _ _ _ => (pg_name (i := 10) sc.nd rfl (Or.inl rfl))) (fun _ _ _ _ _ => pts_nil) (fun _ _ _ _ _ => (pe_tup (pa_cons (pe_ix ix_tup (pv 10) pe_int (fun _ _ => rfl)) (pa_cons (pe_op op_sub pe_int (pe_ix ix_tup (pv 10) pe_int (fun _ _ => rfl))) (pa_cons (pe_ix ix_tup (pv 10) pe_int (fun _ _ => rfl)) pa_nil)))))) pa_nil)))) pa_nil)))
      (pss_one (ps_set (i := 7) sc.nd rfl (Or.inl rfl) (pe_op op_catA (pe_tup (pa_cons pe_bl pa_nil)) (pe_slice sl_tupA (pv 7) (po_some pe_int) po_none)))))
      pss_nil)
    (pss_one (ps_ret (pe_lst (pa_cons (pv 6) (pa_cons (pv 7) pa_nil))))))))))))), ?_⟩
    refine q_start hd ?_
    have hSz : (sizeLine : Nat) = 16777216 := sizeLine_eq
    refine q_asgM (EvI.m st (i_opL (i_draw (n := 3) ⟨by decide, by decide⟩ (a_cons (e_var rfl) (a_cons e_int a_nil))))) fun H1 d1 t1 ⟨s, hd1, f1, st1, s', ⟨hs0, hs3⟩, hs⟩ => ?_
    subst hd1
    have s2 : 2 ≤ s ∧ s ≤ 4 := ⟨by omega, by omega⟩
    refine q_asgM (EvI.m st1 (i_opL (i_draw ⟨by omega, by omega⟩ (a_cons (e_var rfl) (a_cons (e_sub (e_var rfl) e_int) a_nil))))) fun H2 d2 t2 ⟨k, hd2, f2, st2, k', ⟨hk0, hk1⟩, hk⟩ => ?_
    subst hd2
    have k2 : 1 ≤ k ∧ k < s := ⟨by omega, by omega⟩
    refine q_asgM (EvI.m st2 (i_draw (n := 2) ⟨by decide, by decide⟩ (a_cons (e_var rfl) (a_cons e_int a_nil)))) fun H3 d3 t3 ⟨b, hd3, f3, st3, hb0, hb1⟩ => ?_
    subst hd3
    have f03 := (f1.trans f2).trans f3
    have hrng : ∀ (h : Int → Rule), (((List.range (s - 1).toNat).map fun (j : Nat) => 1 + (j : Int)).filter (fun _ => true)).map (fun x => ruleD (h x)) = (rngR s h).map ruleD := fun h => by
      rw [filt_all]
      unfold rngR
      rw [List.map_map, List.map_map]; rfl
    have hrl : ∀ (h : Int → Rule), ((rngR s h).map ruleD).length ≤ 4 := fun h => by
      unfold rngR
      rw [List.length_map, List.length_map, List.length_range]; omega
    have lc1 : EvL (tLc (iRng2 (tCons (tC (.int 1)) (tCons (tVar 1) tNil))) (gName 8) tYes (tTup (tCons (tVar 8) (tCons (tC (.int 1)) (tCons (tC (.int 0)) tNil)))) [8]) [some (.r S), some (.i s), some (.i k), some (.i b), none, none, none, none, none, none, none] H3 ((rngR s (fun x => (x, 1, 0))).map ruleD) := by
      rw [← hrng]
      exact l_lcR2 (vs := [8]) (lo := 1) (n := s) (fun _ => true) (fun x => ruleD (x, 1, 0)) (a_cons e_int (a_cons (e_var rfl) a_nil)) ⟨by omega, by omega, by omega, by omega, by omega⟩ fun j H4 e4 hj => ⟨_, gw_name (by decide), t_yes, fun _ => e_tup (a_cons (e_var rfl) (a_cons e_int (a_cons e_int a_nil))) (by show 3 ≤ sizeLine; decide)⟩
    refine q_asgL (l_cat (ds := [ruleD (k, -1, 1)]) (by have := hrl (fun x => (x, 1, 0)); show 1 + _ ≤ _; omega) (l_lst (a_cons (e_tup (a_cons (e_var rfl) (a_cons (e_neg e_int) (a_cons e_int a_nil))) (by show 3 ≤ sizeLine; decide)) a_nil) (by show 1 ≤ sizeLine; decide)).q lc1.q) fun H4 A4 e4 hA4 hlA => ?_
    have lc2 : EvL (tLc (iRng2 (tCons (tC (.int 1)) (tCons (tVar 1) tNil))) (gName 8) tYes (tTup (tCons (tVar 8) (tCons (tUn (rU fun i => .int (-i)) (tC (.int 1))) (tCons (tC (.int 1)) tNil)))) [8]) [some (.r S), some (.i s), some (.i k), some (.i b), some (.r A4), none, none, none, none, none, none] H4 ((rngR s (fun x => (x, -1, 1))).map ruleD) := by
      rw [← hrng]
      exact l_lcR2 (vs := [8]) (lo := 1) (n := s) (fun _ => true) (fun x => ruleD (x, -1, 1)) (a_cons e_int (a_cons (e_var rfl) a_nil)) ⟨by omega, by omega, by omega, by omega, by omega⟩ fun j H4 e4 hj => ⟨_, gw_name (by decide), t_yes, fun _ => e_tup (a_cons (e_var rfl) (a_cons (e_neg e_int) (a_cons e_int a_nil))) (by show 3 ≤ sizeLine; decide)⟩
    refine q_asgL (l_cat (ds := [ruleD (k * b, 1, 0)]) (by have := hrl (fun x => (x, -1, 1)); show 1 + _ ≤ _; omega) (l_lst (a_cons (e_tup (a_cons (e_mul (.inl ⟨by omega, by omega⟩) (e_var rfl) (e_var rfl)) (a_cons e_int (a_cons e_int a_nil))) (by show 3 ≤ sizeLine; decide)) a_nil) (by show 1 ≤ sizeLine; decide)).q lc2.q) fun H5 A5 e5 hA5 hlB => ?_
    refine q_asg (d := machD (swM0 s k b)) (e_tup (a_cons (e_tupL (hlA.mono e5) (e_var rfl)) (a_cons (e_tupL hlB (e_var rfl)) a_nil)) (by show 2 ≤ sizeLine; decide)) fun H6 e6 => ?_
    refine q_asg (d := shD (swS k b false)) (e_tup (a_cons e_bl (a_cons e_int (a_cons (e_tup (a_cons (e_tup a_nil (by show 0 ≤ sizeLine; decide)) (a_cons (e_tup a_nil (by show 0 ≤ sizeLine; decide)) a_nil)) (by show 2 ≤ sizeLine; decide)) (a_cons (e_tup (a_cons (e_repW (xs := [k]) ⟨by omega, by omega, by show 1 ≤ 1000; decide⟩ (e_tup (a_cons (e_var rfl) a_nil) (by show 1 ≤ sizeLine; decide)) (e_add e_int (e_var rfl))) a_nil) (by show 1 ≤ sizeLine; decide)) (a_cons e_int a_nil))))) (by show 5 ≤ sizeLine; decide)) fun H7 e7 => ?_
    have e37 := ((e4.trans e5).trans e6).trans e7
    have st7 := st3.mono e37
    refine q_ifMR (fun g' H' => ∃ (f : Bool), g' = [some (.r S), some (.i s), some (.i k), some (.i b), some (.r A4), some (.r A5), some (machD (swM s k b f)), some (shD (swS k b f)), none, none, none] ∧ Fr [S] H H' ∧ StAt H' S L) (i_eq0 st7 (i_draw (n := 2) ⟨by decide, by decide⟩ (a_cons (e_var rfl) (a_cons e_int a_nil)))) ?_ (fun H8 t8 ⟨z, _, f8, st8, _⟩ jj => ?_) (fun H8 t8 ⟨z, _, f8, st8, _⟩ jj => ?_)
    · rintro g' H8 ⟨f, rfl, f8, st8⟩
      refine s_retM (l_lst (a_cons (e_var rfl) (a_cons (e_var rfl) a_nil)) (by show 2 ≤ sizeLine; decide)).m fun H9 v d9 t9 hv ⟨e9, l, vs, hd9, hl, h1, h2⟩ => ?_
      subst hd9
      cases hv.r_inv
      exact kk H9 l s k b f (f8.trans (Fr.of e9)) (st8.mono e9) (f8.nn l hl) s2 k2 ⟨hb0, by omega⟩ ⟨vs, h1, h2⟩
    · have f08 := (f03.trans (Fr.of e37)).trans f8
      have hm1 : (swM0 s k b).length = 2 := rfl
      have hm2 : ∀ row ∈ swM0 s k b, row.length ≤ 1000 := fun row hr => by
        unfold swM0 at hr
        rcases List.mem_cons.mp hr with z | z
        · have := hrl (fun x => (x, 1, 0))
          rw [List.length_map] at this
          rw [z, List.length_cons]; omega
        · have := hrl (fun x => (x, -1, 1))
          rw [List.length_map] at this
          rw [List.mem_singleton.mp z, List.length_cons]; omega
      refine q_asg (d := machD (swM s k b true)) ((e_tupN (l_lcT (vs := [9]) rowD (fun _ => true) (fun row => rowD (row.map fun r => (r.1, -r.2.1, r.2.2))) (e_var (d := machD (swM0 s k b)) rfl) (lt100000 (by rw [hm1]; decide)) fun j x H9 e9 hx => ⟨_, gw_name (by decide), t_yes, fun _ => e_mirr2 (by rfl) (by decide) rfl (hm2 x (List.mem_of_getElem? hx))⟩)).is ?_) fun H9 e9 => ?_
      · rw [filt_all]
        unfold machD swM sidedM mirr
        rw [if_pos rfl, List.map_map]; rfl
      · exact s_asg (d := shD (swS k b true)) (e_cat (ds := [.b true]) (es := [.i 0, .t [.t [], .t []], .t [wD (rep (1 + b).toNat [k])], .i 1]) (by show 1 + 4 ≤ sizeLine; decide) (e_tup (a_cons e_bl a_nil) (by show 1 ≤ sizeLine; decide)) (e_slT (ds := [.b false, .i 0, .t [.t [], .t []], .t [wD (rep (1 + b).toNat [k])], .i 1]) (lo := some 1) (hi := none) (e_var (d := shD (swS k b false)) rfl) (o_some e_int) o_none)) fun Ha ea => jj _ Ha ⟨true, rfl, (f08.trans (Fr.of e9)).trans (Fr.of ea), (st8.mono e9).mono ea⟩
    · exact fun σ s => jj _ H8 ⟨false, rfl, (f03.trans (Fr.of e37)).trans f8, st8⟩ σ s
end
end Tac

namespace Tac
open PySem PySem.Spec PyProof.Rows L2
section
variable {K : PySem.W.Frag} {g : Ga} {H H' : Hp} {ta tb tc te : TE} {t u : TT} {d e : D} {R R' : D → Hp → Prop} {S L : Addr} {X : Int → Prop} {sp : Sp} {E : XK}
theorem i_eqV {c : Int} (st : StAt H S L) (h : EvI te g H S L X) : EvM (tOp rEq te (tC (.int c))) g H fun d' H2 => ∃ i, d' = .b (decide (i = c)) ∧ Fr [S] H H2 ∧ StAt H2 S L ∧ X i := fun σ s Q q => h st σ s _ fun H2 i f2 s2 hx => ⟨rfl, by rw [show decide (V.int i = V.int c) = decide (i = c) by by_cases h : i = c <;> simp [h]]; exact q H2 _ _ f2.tp .b ⟨i, rfl, f2, s2, hx⟩⟩
theorem m_callI (st : StAt H S L) (ha : Ev ta g H d) (h : ∀ H1, Same H H1 → EvI te g H1 S L X) (hr : ∀ H1 i vs, Fr [S] H H1 → X i → DTs H1 vs [d, .i i] → ∀ Q : VK, (∀ H2 z d, Tp H1 H2 → DT H2 z d → R d H2 → Q z H2) → sp vs H1 Q E) : EvM (tCall sp [] E (tCons ta (tCons te tNil))) g H R := fun σ s Q q =>
  ha σ H (Same.refl _) s _ fun H1 v e1 hv => h H1 e1 (st.mono e1) σ (s.mono (tpOf e1)) _ fun H2 i f2 st2 hx => by
    show sp [v, .int i] H2 Q E
    exact hr H2 i _ ((Fr.of e1).trans f2) hx (.cons (hv.mono f2.tp) (.cons .i .nil)) Q fun H3 z d t3 hz hR => q H3 z d ((tpOf e1).trans (f2.tp.trans t3)) hz hR
end
section
variable {P : Program} {w : World} {K : PySem.W.Frag} {mg : Str → Option Value} {base : Heap} {CR CS CF : Addr}
/-! ### law -/
abbrev sLaw : Stmt := top 42
theorem sc_law : FnScope ["_law_script", "_law_stream_here", "_law_machine_here", "_law_found", "_law_sweeps", "_law_pair", "_law_k", "_law_shape", "_law_own", "_law_history_here", "_law_number", "_law_at"] ["_law_script"] (defScope sLaw) := ⟨rfl, rfl, rfl, by decide +kernel, rfl, by decide +kernel, by decide +kernel⟩
def spLaw (K : PySem.W.Frag) : Sp := fun vs H Q _ => ∃ (a : Addr) (ns : List Int), vs = [.ref a] ∧ SqL K H a (ns.map V.int) ∧ ns.length ≤ 63 ∧ ∀ H', Q (.bl true) H'
/-- what a found shape is known to be -/
structure FndOk (m : Mach) (B : Nat) (sw : Bool) (n : Nat) (sh : Shp) : Prop where
  n140 : n ≤ 140
  sok : ShpOk sh m.length B
  has : hasShape m n sh = true
  sw : sw = true → cntGo (sidedM m sh.flip) sh (400 - n) (n + 1) sh.first > sh.first + 5
theorem flip_len (sh : Shp) (S B : Nat) (h : ShpOk sh S B) : ShpOk ⟨!sh.flip, sh.st, sh.words, sh.reps, sh.first⟩ S B := ⟨h.st0, h.st1, h.f1, h.f20, h.wl, h.rl1, h.rl2, h.w, h.r⟩
theorem ok_law {f : Addr} {fd : FuncData} (M : LawFacts) (F : Fun K "law" "law" sLaw f fd) (T : Tx K mg CR CS CF)
    (c_law_stream : Cal P w K mg base "_law_stream" 1 ["_law_script"] (spLStream K)) (c_law_machine : Cal P w K mg base "_law_machine" 3 ["_law_stream_here"] spLMach) (c_law_draw : Cal P w K mg base "_law_draw" 1 ["_law_stream_here", "_law_many"] spLDraw)
    (c_law_sweeper : Cal P w K mg base "_law_sweeper" 2 ["_law_stream_here"] spLSweep) (c_has_shape : Cal P w K mg base "has_shape" 5 ["machine", "start", "shape"] spHas) (c_find_shape : Cal P w K mg base "find_shape" 10 ["machine", "count"] spFind)
    (c_law_mirrored : Cal P w K mg base "_law_mirrored" 1 ["_law_machine_here"] spMirr) (c_law_history : Cal P w K mg base "_law_history" 2 ["_law_machine_here", "_law_count"] spLHist) (c_law_is_at : Cal P w K mg base "_law_is_at" 2 ["_law_now", "_law_shape", "_law_number"] spLIsAt) : FnOk P w K mg base CX0 11 f fd ["_law_script"] (spLaw K) := by
  refine F.ok sc_law (fun vs H Q E h => ?_) (fun cdv A outer s H vs Q E hr h => ?_)
  · obtain ⟨_, _, rfl, _⟩ := h
    rfl
  · obtain ⟨a, ns, rfl, hS, _, k⟩ := h
    have hd : DTs H [V.ref a] [.r a] := .one .r
    have sc := sc_law
    refine ⟨_, (pss_cons (ps_set (i := 1) sc.nd rfl (Or.inl rfl) (pe_callX c_law_stream (hr.mono (by decide)) rfl (pa_cons (pv 0) pa_nil)))
    (pss_cons (ps_set (i := 2) sc.nd rfl (Or.inl rfl) (pe_callX c_law_machine (hr.mono (by decide)) rfl (pa_cons (pv 1) pa_nil)))
    (pss_cons (ps_set (i := 3) sc.nd rfl (Or.inl rfl) pe_non)
    (pss_cons (ps_set (i := 4) sc.nd rfl (Or.inl rfl) (pe_cmpR op_eq (pe_callX c_law_draw (hr.mono (by decide)) rfl (pa_cons (pv 1) (pa_cons pe_int pa_nil))) pe_int (nomark _)))
    (pss_cons (ps_if (pt_val (pv 4))
      (pss_cons (ps_set (i := 5) sc.nd rfl (Or.inl rfl) (pe_callX c_law_sweeper (hr.mono (by decide)) rfl (pa_cons (pv 1) pa_nil)))
      (pss_cons (ps_set (i := 2) sc.nd rfl (Or.inl rfl) (pe_ix ix_list (pv 5) pe_int (fun _ _ => rfl)))
      (pss_cons (ps_set (i := 3) sc.nd rfl (Or.inl rfl) (pe_tup (pa_cons pe_int (pa_cons (pe_ix ix_list (pv 5) pe_int (fun _ _ => rfl)) pa_nil))))
      (pss_cons (ps_for PassesOwn.never rfl (pi_range1 rfl T.range (pa_cons pe_int pa_nil)) (pg_name (i := 6) sc.nd rfl (Or.inl rfl))
        (pss_one (ps_if (pt_val (pe_callX c_has_shape (hr.mono (by decide)) rfl (pa_cons (pv 2) (pa_cons (pe_op op_sub pe_int (pv 6)) (pa_cons (pe_ix ix_list (pv 5) pe_int (fun _ _ => rfl)) pa_nil)))))
          (pss_one (ps_set (i := 3) sc.nd rfl (Or.inl rfl) (pe_tup (pa_cons (pe_op op_sub pe_int (pv 6)) (pa_cons (pe_ix ix_list (pv 5) pe_int (fun _ _ => rfl)) pa_nil)))))
          pss_nil)))
      (pss_one (ps_if (pt_not (pt_val (pe_callX c_has_shape (hr.mono (by decide)) rfl (pa_cons (pv 2) (pa_cons (pe_ix ix_tup (pv 3) pe_int (fun _ _ => rfl)) (pa_cons (pe_ix ix_tup (pv 3) pe_int (fun _ _ => rfl)) pa_nil))))))
        (pss_one (ps_ret pe_bl))
        pss_nil))))))
      (pss_one (ps_set (i := 3) sc.nd rfl (Or.inl rfl) (pe_callX c_find_shape (hr.mono (by decide)) rfl (pa_cons (pv 2) (pa_cons (pe_op op_add pe_int (pe_callX c_law_draw (hr.mono (by decide)) rfl (pa_cons (pv 1) (pa_cons pe_int pa_nil)))) pa_nil))))))
    (pss_cons (ps_if (pt_cmpR op_isN (pv 3) pe_non (nomark _))
      (pss_one (ps_ret pe_bl))
      pss_nil)
    (pss_cons (ps_set (i := 7) sc.nd rfl (Or.inl rfl) (pe_ix ix_tup (pv 3) pe_int (fun _ _ => rfl)))
    (pss_cons (ps_if (pt_not (pt_val (pe_callX c_has_shape (hr.mono (by decide)) rfl (pa_cons (pv 2) (pa_cons (pe_ix ix_tup (pv 3) pe_int (fun _ _ => rfl)) (pa_cons (pv 7) pa_nil))))))
      (pss_one (ps_ret pe_bl))
      pss_nil)
    (pss_cons (ps_if (pt_not (pt_val (pe_callX c_has_shape (hr.mono (by decide)) rfl (pa_cons (pe_callX c_law_mirrored (hr.mono (by decide)) rfl (pa_cons (pv 2) pa_nil)) (pa_cons (pe_ix ix_tup (pv 3) pe_int (fun _ _ => rfl)) (pa_cons (pe_op op_catA (pe_tup (pa_cons (pe_not (pe_ix ix_tup (pv 7) pe_int (fun _ _ => rfl))) pa_nil)) (pe_slice sl_tupA (pv 7) (po_some pe_int) po_none)) pa_nil))))))
      (pss_one (ps_ret pe_bl))
      pss_nil)
    (pss_cons (ps_set (i := 8) sc.nd rfl (Or.inl rfl) (pv 2))
    (pss_cons (ps_if (pt_val (pe_ix ix_tup (pv 7) pe_int (fun _ _ => rfl)))
      (pss_one (ps_set (i := 8) sc.nd rfl (Or.inl rfl) (pe_callX c_law_mirrored (hr.mono (by decide)) rfl (pa_cons (pv 2) pa_nil))))
      pss_nil)
    (pss_cons (ps_set (i := 9) sc.nd rfl (Or.inl rfl) (pe_callX c_law_history (hr.mono (by decide)) rfl (pa_cons (pv 8) (pa_cons pe_int pa_nil))))
    (pss_cons (ps_if (PW.pt (pw_or (pt_cmpR op_lt (pe_ix ix_tup (pe_ix ix_list (pv 9) (pe_op op_sub (pe_callB call_len_seq rfl T.len PySem.boot_len (pa_cons (pv 9) pa_nil)) pe_int) (fun _ _ => rfl)) pe_int (fun _ _ => rfl)) pe_int (nomark _)) (pw_or1 (pt_not (pt_val (pe_callX c_law_is_at (hr.mono (by decide)) rfl (pa_cons (pe_ix ix_list (pv 9) (pe_ix ix_tup (pv 3) pe_int (fun _ _ => rfl)) (fun _ _ => rfl)) (pa_cons (pv 7) (pa_cons (pe_ix ix_tup (pv 7) pe_int (fun _ _ => rfl)) pa_nil)))))))))
      (pss_one (ps_ret pe_bl))
      pss_nil)
    (pss_cons (ps_set (i := 10) sc.nd rfl (Or.inl rfl) (pe_ix ix_tup (pv 7) pe_int (fun _ _ => rfl)))
    (pss_cons (ps_for PassesOwn.never rfl (pi_range2 rfl T.range (pa_cons (pe_op op_add (pe_ix ix_tup (pv 3) pe_int (fun _ _ => rfl)) pe_int) (pa_cons (pe_callB call_len_seq rfl T.len PySem.boot_len (pa_cons (pv 9) pa_nil)) pa_nil))) (pg_name (i := 11) sc.nd rfl (Or.inl rfl))
      (pss_one (ps_if (pt_val (pe_callX c_law_is_at (hr.mono (by decide)) rfl (pa_cons (pe_ix ix_list (pv 9) (pv 11) (fun _ _ => rfl)) (pa_cons (pv 7) (pa_cons (pe_op op_add (pv 10) pe_int) pa_nil)))))
        (pss_one (ps_set (i := 10) sc.nd rfl (Or.inl rfl) (pe_op op_add (pv 10) pe_int)))
        pss_nil)))
    (pss_one (ps_ret (pe_or (pe_cmpR op_gt (pv 10) (pe_op op_add (pe_ix ix_tup (pv 7) pe_int (fun _ _ => rfl)) pe_int) (nomark _)) (pe_one (pe_not (pv 4))))))))))))))))))))), ?_⟩
    refine q_start hd ?_
    have shx : ∀ {sh : Shp} {i : Int} {d : D}, atI [D.b sh.flip, .i sh.st, wsD sh.words, wsD sh.reps, .i sh.first] i = some d → ∀ {g : Ga} {H : Hp} {te tb : TE}, Ev te g H (shD sh) → Ev tb g H (.i i) → Ev (tOp (rIxT K) te tb) g H d := fun h _ _ _ _ h1 h2 => e_ixT h h1 h2
    have fo0 : ∀ {n : Nat} {sh : Shp} {g : Ga} {H : Hp} {te : TE}, Ev te g H (foD (some (n, sh))) → Ev (tOp (rIxT K) te (tC (.int 0))) g H (.i (n : Int)) := fun h => e_ixT (ds := [.i _, shD _]) rfl h e_int
    have fo1 : ∀ {n : Nat} {sh : Shp} {g : Ga} {H : Hp} {te : TE}, Ev te g H (foD (some (n, sh))) → Ev (tOp (rIxT K) te (tC (.int 1))) g H (shD sh) := fun h => e_ixT (ds := [.i _, shD _]) rfl h e_int
    have hasE : ∀ {m : Mach} {B n : Nat} {sh : Shp} {g : Ga} {H : Hp} {t1 t2 t3 : TE}, MachOk m B → ShpOk sh m.length B → n ≤ 400 → Ev t1 g H (machD m) → Ev t2 g H (.i (n : Int)) → Ev t3 g H (shD sh) → Ev (tCall spHas [] E0 (tCons t1 (tCons t2 (tCons t3 tNil)))) g H (.b (hasShape m n sh)) := fun mo sok hn h1 h2 h3 =>
      e_call (a_cons h1 (a_cons h2 (a_cons h3 a_nil))) fun H1 vs e1 hvs Q2 q => ⟨_, _, _, _, hvs, mo, sok, hn, fun H2 e2 => q H2 _ e2 .b⟩
    refine q_asgM (m_call (R := fun d' H2 => ∃ S L, d' = .r S ∧ StAt H2 S L) (a_cons (e_var rfl) a_nil) fun H1 vs e1 hvs Q2 q => ⟨a, ns, hvs, e1.seq hS, fun H2 S L e2 _ _ st2 => q H2 _ (.r S) (tpOf e2) .r ⟨S, L, rfl, st2⟩⟩) fun H1 d1 t1 ⟨S, L, hd1, st1⟩ => ?_
    subst hd1
    refine q_asgM (m_call (R := fun d' H2 => ∃ m B, d' = machD m ∧ StAt H2 S L ∧ MachOk m B) (a_cons (e_var rfl) a_nil) fun H2 vs e2 hvs Q2 q => ⟨S, L, hvs, st1.mono e2, fun H3 v m B f3 st3 mo hv => q H3 v _ f3.tp hv ⟨m, B, rfl, st3, mo⟩⟩) fun H2 d2 t2 ⟨m0, B0, hd2, st2, mo0⟩ => ?_
    subst hd2
    refine q_asg e_non fun H3 e3 => ?_
    refine q_asgM (i_eqV (st2.mono e3) (i_draw (n := 2) ⟨by decide, by decide⟩ (a_cons (e_var rfl) (a_cons e_int a_nil)))) fun H4 d4 t4 ⟨i4, hd4, f4, st4, _⟩ => ?_
    subst hd4
    generalize decide (i4 = 0) = sw
    refine q_ifR (fun g' H' => ∃ (m : Mach) (B : Nat) (o : Option (Nat × Shp)) (o5 o6 : Option D), g' = [some (.r a), some (.r S), some (machD m), some (foD o), some (.b sw), o5, o6, none, none, none, none, none] ∧ MachOk m B ∧ ∀ n sh, o = some (n, sh) → FndOk m B sw n sh) (t_B (e_var rfl)) ?_ (fun hb H5 e5 kk => ?_) (fun hb H5 e5 kk => ?_)
    · rintro g' H5 ⟨m, B, o, o5, o6, rfl, mo, hfo⟩
      cases o with
      | none =>
        refine q_when (t_test (e_isN (d := .n) (e_var rfl))) (fun hb H6 e6 => ?_) (fun hb H6 e6 => Bool.noConfusion (show true = false from hb))
        refine s_ret e_bl fun H7 v e7 hv => ?_
        cases hv.b_inv
        exact k H7
      | some x =>
        obtain ⟨n, sh⟩ := x
        have ok := hfo n sh rfl
        have hn := ok.n140
        have sok := ok.sok
        have f1 := sok.f1
        have f20 := sok.f20
        refine q_when (t_test (e_isN (d := foD (some (n, sh))) (e_var rfl))) (fun hb H6 e6 => Bool.noConfusion (show false = true from hb)) (fun hb H6 e6 => ?_)
        refine q_asg (fo1 (e_var rfl)) fun H7 e7 => ?_
        refine q_when (t_not (t_B (hasE mo sok (by omega) (e_var rfl) (fo0 (n := n) (sh := sh) (e_var rfl)) (e_var rfl)))) (fun hb H8 e8 => ?_) (fun hb H8 e8 => ?_)
        · rw [ok.has] at hb
          cases hb
        · have mo2 := mo.mirr
          have sok2 : ShpOk ⟨!sh.flip, sh.st, sh.words, sh.reps, sh.first⟩ (mirr m).length B := by rw [mirr_len]; exact flip_len sh _ _ sok
          have hmir : hasShape (mirr m) n ⟨!sh.flip, sh.st, sh.words, sh.reps, sh.first⟩ = true := by rw [M.mir]; exact ok.has
          refine q_when (t_not (t_B (hasE mo2 sok2 (by omega) (e_call (d := machD (mirr m)) (a_cons (e_var rfl) a_nil) fun H9 vs e9 hvs Q2 q => ⟨m, hvs, mo.small, q⟩) (fo0 (n := n) (sh := sh) (e_var rfl)) (e_cat (ds := [.b (!sh.flip)]) (es := [.i sh.st, wsD sh.words, wsD sh.reps, .i sh.first]) (by show 1 + 4 ≤ sizeLine; decide) (e_tup (a_cons (e_notV (shx (d := .b sh.flip) (i := 0) rfl (e_var rfl) e_int)) a_nil) (by show 1 ≤ sizeLine; decide)) (e_slT (ds := [.b sh.flip, .i sh.st, wsD sh.words, wsD sh.reps, .i sh.first]) (lo := some 1) (hi := none) (e_var (d := shD sh) rfl) (o_some e_int) o_none))))) (fun hb2 H9 e9 => ?_) (fun hb2 H9 e9 => ?_)
          · rw [hmir] at hb2
            cases hb2
          · refine q_asg (e_var (d := machD m) rfl) fun Ha ea => ?_
            have moS := mo.sided sh.flip
            have hns := M.never mo sok (by omega) ok.has
            have hat := M.at0 mo sok (by omega) ok.has
            have hcnt := ok.sw
            refine q_ifR (fun g' H' => g' = [some (.r a), some (.r S), some (machD m), some (foD (some (n, sh))), some (.b sw), o5, o6, some (shD sh), some (machD (sidedM m sh.flip)), none, none, none]) (t_B (shx (d := .b sh.flip) (i := 0) rfl (e_var rfl) e_int)) ?_ (fun hb3 Hb eb jj => ?_) (fun hb3 Hb eb jj => ?_)
            · rintro g' Hb rfl
              generalize sidedM m sh.flip = own at moS hns hat hcnt
              refine q_asgM (m_call (R := fun d' H2 => ∃ l, d' = .r l ∧ HsAt H2 l own 400) (a_cons (e_var rfl) (a_cons e_int a_nil)) fun Hc vs ec hvs Q2 q => ⟨own, B, 400, hvs, moS, by decide, fun k _ => hns k, fun Hd l ed _ hh => q Hd _ (.r l) (tpOf ed) .r ⟨l, rfl, hh⟩⟩) fun Hc dc tc ⟨l, hdc, hh⟩ => ?_
              subst hdc
              have isE : ∀ {H0 : Hp} {g : Ga} {t1 t2 t3 : TE} {k : Nat} {d : Addr} {num : Int}, DcD H0 d (Rn.run own k rn0).tape → k ≤ 400 → (0 ≤ num ∧ num ≤ 1000) → Ev t1 g H0 (nowD (Rn.run own k rn0) d) → Ev t2 g H0 (shD sh) → Ev t3 g H0 (.i num) → Ev (tCall spLIsAt [] E0 (tCons t1 (tCons t2 (tCons t3 tNil)))) g H0 (.b (isAt (Rn.run own k rn0) sh num)) := fun {H0 g t1 t2 t3 k d num} hdk hk hnum h1 h2 h3 => by
                obtain ⟨rok, rst⟩ := run_ok moS k (RnOk.zero moS)
                have rs0 : rn0.steps = 0 := rfl
                have rln := rok.ln
                exact e_call (a_cons h1 (a_cons h2 (a_cons h3 a_nil))) fun H1 vs e1 hvs Q2 q => ⟨_, d, sh, num, hvs, hdk.mono e1, by omega, sok.tap, hnum, fun H2 e2 => q H2 _ e2 .b⟩
              obtain ⟨ds, hls, hdl, hall⟩ := id hh
              obtain ⟨d400, h41, h42⟩ := hall 400 (Nat.le_refl _)
              obtain ⟨dn, hn1, hn2⟩ := hall n (by omega)
              have hlast : ¬ (Rn.run own 400 rn0).state < 0 := by
                have := (run_ok moS 400 (RnOk.zero moS)).1.s0
                have := hns 400
                omega
              refine q_when (t_or (t_test (e_lt (e_ixT (d := .i (Rn.run own 400 rn0).state) (i := 0) rfl (e_ixL (d := nowD (Rn.run own 400 rn0) d400) hls (i := ((400 : Nat) : Int)) (atI_get h41) (e_var rfl) ((e_sub (e_lenL hls (e_var rfl)) e_int).is (by rw [hdl]; rfl))) e_int) e_int)) fun _ => (t_not (t_B (isE hn2 (by omega) ⟨by omega, by omega⟩ (e_ixL hls (atI_get hn1) (e_var rfl) (fo0 (n := n) (sh := sh) (e_var rfl))) (e_var rfl) (shx (d := .i sh.first) (i := 4) rfl (e_var rfl) e_int))))) (fun hb4 Hd ed => ?_) (fun hb4 Hd ed => ?_)
              · rw [hat] at hb4
                rcases Bool.or_eq_true_iff.mp hb4 with z | z
                · exact absurd (of_decide_eq_true z) hlast
                · cases z
              · refine q_asg (shx (d := .i sh.first) (i := 4) rfl (e_var rfl) e_int) fun He ee => ?_
                have ece := ed.trans ee
                have hlse := hls.mono ece
                refine q_forR2 (lo := (n : Int) + 1) (n := 401) (a_cons (e_add (fo0 (n := n) (sh := sh) (e_var rfl)) e_int) (a_cons ((e_lenL hlse (e_var rfl)).is (by rw [hdl]; rfl)) a_nil)) ⟨by omega, by omega, by omega, by omega⟩ fun Hf ef => ⟨fun j g' H' => ∃ (num : Int) (o11 : Option D), g' = [some (.r a), some (.r S), some (machD m), some (foD (some (n, sh))), some (.b sw), o5, o6, some (shD sh), some (machD own), some (.r l), some (.i num), o11] ∧ Same Hc H' ∧ j ≤ 400 - n ∧ (sh.first ≤ num ∧ num ≤ sh.first + j) ∧ cntGo own sh (400 - n) (n + 1) sh.first = cntGo own sh (400 - n - j) (n + 1 + j) num,
                  ⟨sh.first, _, rfl, ece.trans ef, Nat.zero_le _, ⟨Int.le_refl _, by omega⟩, rfl⟩, ?_, ?_⟩
                · rintro j g' H' hj ⟨num, o11, rfl, eg, hj4, ⟨hnum0, hnum1⟩, hcg⟩
                  refine ⟨_, g_name, ?_⟩
                  have hk : n + 1 + j ≤ 400 := by omega
                  obtain ⟨dk, hk1, hk2⟩ := hall (n + 1 + j) hk
                  have hstep : cntGo own sh (400 - n - j) (n + 1 + j) num = cntGo own sh (400 - n - (j + 1)) (n + 1 + (j + 1)) (if isAt (Rn.run own (n + 1 + j) rn0) sh (num + 1) = true then num + 1 else num) := by
                    rw [show 400 - n - j = (400 - n - (j + 1)) + 1 by omega]; rfl
                  refine s_when (t_B (isE (hk2.mono eg) hk ⟨by omega, by omega⟩ (e_ixL (hls.mono eg) (atI_get hk1) (e_var rfl) ((e_var (d := .i ((n : Int) + 1 + (j : Int))) rfl).is (by congr 1))) (e_var rfl) (e_add (e_var rfl) e_int))) (fun hb5 Hg eg2 => ?_) (fun hb5 Hg eg2 => ?_)
                  · exact s_asg (e_add (e_var rfl) e_int) fun Hh eh => n_lp ⟨num + 1, _, rfl, (eg.trans eg2).trans eh, by omega, ⟨by omega, by omega⟩, by rw [hcg, hstep, if_pos hb5]⟩
                  · exact n_lp ⟨num, _, rfl, eg.trans eg2, by omega, ⟨by omega, by omega⟩, by rw [hcg, hstep, if_neg (by rw [hb5]; decide)]⟩
                · rintro g' H' ⟨num, o11, rfl, eg, hj4, ⟨hnum0, hnum1⟩, hcg⟩
                  refine s_ret (e_orV (e_gt (e_var rfl) (e_add (shx (d := .i sh.first) (i := 4) rfl (e_var rfl) e_int) e_int)) fun _ => (e_notV (e_var rfl))) fun Hg v eg2 hv => ?_
                  cases hv.b_inv
                  have hfin : (decide (sh.first + 5 < num) || !sw) = true := by
                    cases sw with
                    | false => simp
                    | true =>
                      have h1 := hcnt rfl
                      rw [hcg, show 400 - n - ((401 : Int) - ((n : Int) + 1)).toNat = 0 by omega] at h1
                      have h2 : num > sh.first + 5 := h1
                      rw [decide_eq_true h2]; rfl
                  rw [hfin]
                  exact k Hg
            · refine s_asg (d := machD (sidedM m sh.flip)) (e_call (a_cons (e_var rfl) a_nil) fun H9 vs e9 hvs Q2 q => ⟨m, hvs, mo.small, fun H' v e hv => q H' v e (by unfold sidedM; rw [if_pos hb3]; exact hv)⟩) fun Hc ec => jj _ Hc rfl
            · refine fun σ s => jj _ Hb ?_ σ s
              unfold sidedM
              rw [if_neg (by rw [hb3]; decide)]; rfl
    · have st5 := st4.mono e5
      refine q_asgM (m_call (R := fun d' H2 => ∃ (l : Addr) (s k b : Int) (f : Bool), d' = .r l ∧ (2 ≤ s ∧ s ≤ 4) ∧ (1 ≤ k ∧ k < s) ∧ (0 ≤ b ∧ b ≤ 1) ∧ LsD H2 l [machD (swM s k b f), shD (swS k b f)]) (a_cons (e_var rfl) a_nil) fun H6 vs e6 hvs Q2 q => ⟨S, L, hvs, st5.mono e6, fun H7 l s k b f f7 _ _ hs hk hb hl => q H7 _ (.r l) f7.tp .r ⟨l, s, k, b, f, rfl, hs, hk, hb, hl⟩⟩) fun H6 d6 t6 ⟨l, s', k', b', f', hd6, hs, hk, hb', hl⟩ => ?_
      subst hd6
      obtain ⟨B, mo, sok, hsw8, hhas, hcnt⟩ := M.sw (f := f') hs hk hb'
      generalize swM s' k' b' f' = m at *
      generalize swS k' b' f' = sh at *
      refine q_asg (e_ixL (d := machD m) (i := 0) hl rfl (e_var rfl) e_int) fun H7 e7 => ?_
      have hl7 := hl.mono e7
      have pr1 : ∀ {H : Hp} {g : Ga} {te : TE}, Same H6 H → Ev te g H (.r l) → Ev (tOp (rIxL K) te (tC (.int 1))) g H (shD sh) := fun e h => e_ixL (i := 1) (hl.mono e) rfl h e_int
      refine q_asg (d := foD (some (8, sh))) (e_tup (a_cons e_int (a_cons (pr1 e7 (e_var rfl)) a_nil)) (by show 2 ≤ sizeLine; decide)) fun H8 e8 => ?_
      refine q_forR (n := 8) (a_cons e_int a_nil) ⟨by decide, by decide⟩ fun H9 e9 => ⟨fun j g' H' => ∃ o6 : Option D, g' = [some (.r a), some (.r S), some (machD m), some (foD (some (sweepGo m sh j, sh))), some (.b sw), some (.r l), o6, none, none, none, none, none] ∧ Same H6 H' ∧ j ≤ 8,
        ⟨_, rfl, (e7.trans e8).trans e9, Nat.zero_le _⟩, ?_, ?_⟩
      · rintro j g' H' hj ⟨o6, rfl, ea, hj8⟩
        refine ⟨_, g_name, ?_⟩
        have hsub : ∀ {H : Hp} {g : Ga}, Ev (tVar 6) g H (.i (j : Int)) → Ev (tOp (rI0 fun i j => .int (i - j)) (tC (.int 7)) (tVar 6)) g H (.i ((7 - j : Nat) : Int)) := fun h => (e_sub e_int h).is (by congr 1; omega)
        refine s_when (t_B (hasE mo sok (by omega) (e_var rfl) (hsub (e_var rfl)) (pr1 ea (e_var rfl)))) (fun hb2 Hb eb => ?_) (fun hb2 Hb eb => ?_)
        · refine s_asg (d := foD (some (7 - j, sh))) (e_tup (a_cons (hsub (e_var rfl)) (a_cons (pr1 (ea.trans eb) (e_var rfl)) a_nil)) (by show 2 ≤ sizeLine; decide)) fun Hc ec => n_lp ⟨some (.i (j : Int)), ?_, (ea.trans eb).trans ec, by omega⟩
          show _ = [some (.r a), some (.r S), some (machD m), some (foD (some ((if hasShape m (7 - j) sh = true then 7 - j else sweepGo m sh j), sh))), some (.b sw), some (.r l), some (.i (j : Int)), none, none, none, none, none]
          rw [if_pos hb2]; rfl
        · refine n_lp ⟨some (.i (j : Int)), ?_, ea.trans eb, by omega⟩
          show _ = [some (.r a), some (.r S), some (machD m), some (foD (some ((if hasShape m (7 - j) sh = true then 7 - j else sweepGo m sh j), sh))), some (.b sw), some (.r l), some (.i (j : Int)), none, none, none, none, none]
          rw [if_neg (by rw [hb2]; decide)]; rfl
      · rintro g' H' ⟨o6, rfl, ea, _⟩
        have hfo : ∀ {H : Hp} {g : Ga} {te : TE}, Ev te g H (foD (some (sweepGo m sh (8 : Int).toNat, sh))) → Ev te g H (foD (some (sweepGo m sh 8, sh))) := fun h => h
        refine s_when (t_not (t_B (hasE mo sok (by omega) (e_var rfl) (fo0 (n := sweepGo m sh 8) (sh := sh) (e_var rfl)) (fo1 (n := sweepGo m sh 8) (sh := sh) (e_var rfl))))) (fun hb2 Hb eb => ?_) (fun hb2 Hb eb => ?_)
        · rw [hhas] at hb2
          cases hb2
        · exact fun σ s => kk _ Hb ⟨m, B, some (sweepGo m sh 8, sh), _, _, rfl, mo, fun n' sh' h => by
            cases h
            exact ⟨by omega, sok, hhas, fun _ => hcnt⟩⟩ σ s
    · have st5 := st4.mono e5
      refine s_asgM (m_callI (R := fun d' H2 => ∃ o, d' = foD o ∧ FsOk m0 B0 o) (d := machD m0) st5 (e_var rfl) (fun H6 e6 => i_opL (f := fun i j => i + j) (i_draw (n := 100) ⟨by decide, by decide⟩ (a_cons (e_var rfl) (a_cons e_int a_nil)))) fun H6 i vs f6 ⟨j, ⟨hj0, hj1⟩, hi⟩ hvs Q2 q => ⟨m0, B0, i.toNat, by rw [show ((i.toNat : Nat) : Int) = i by omega]; exact hvs, mo0, by omega, fun H7 v o e7 hv fok => q H7 v _ (tpOf e7) hv ⟨o, rfl, fok⟩⟩) fun H6 d6 t6 ⟨o, hd6, fok⟩ => ?_
      subst hd6
      exact kk _ H6 ⟨m0, B0, o, _, _, rfl, mo0, fun n sh h => by
        obtain ⟨q1, q2, q3⟩ := fok n sh h
        exact ⟨q1, q2, q3, fun z => by rw [hb] at z; cases z⟩⟩
end
end Tac

namespace Tac
/-! ### sequences that a list of factors (shift minus r) takes to zero -/
def dlt (r : Int) (f : Nat → Int) : Nat → Int := fun n => f (n + 1) - r * f n
def annih : List Int → (Nat → Int) → Prop
  | [], f => ∀ n, f n = 0
  | r :: rs, f => annih rs (dlt r f)
theorem annih_congr : ∀ {rs : List Int} {f g : Nat → Int}, (∀ n, f n = g n) → annih rs f → annih rs g
  | [], f, g, h, a => fun n => by rw [← h]; exact a n
  | r :: rs, f, g, h, a => annih_congr (rs := rs) (f := dlt r f) (g := dlt r g) (fun n => by unfold dlt; rw [h, h]) a
theorem annih_zero : ∀ {rs : List Int} {f : Nat → Int}, (∀ n, f n = 0) → annih rs f
  | [], f, h => h
  | r :: rs, f, h => annih_zero (rs := rs) fun n => by unfold dlt; rw [h, h]; omega
theorem annih_lin : ∀ {rs : List Int} {f g : Nat → Int} (a b : Int), annih rs f → annih rs g → annih rs fun n => a * f n + b * g n
  | [], f, g, a, b, hf, hg => fun n => by
    show a * f n + b * g n = 0
    rw [hf n, hg n]; omega
  | r :: rs, f, g, a, b, hf, hg => by
    refine annih_congr (rs := rs) (fun n => ?_) (annih_lin (rs := rs) a b hf hg)
    unfold dlt
    grind
theorem annih_shift : ∀ {rs : List Int} {f : Nat → Int}, annih rs f → annih rs fun n => f (n + 1)
  | [], f, h => fun n => h (n + 1)
  | r :: rs, f, h => annih_shift (rs := rs) (f := dlt r f) h
theorem dlt_comm (r s : Int) (f : Nat → Int) (n : Nat) : dlt r (dlt s f) n = dlt s (dlt r f) n := by
  unfold dlt
  grind
theorem annih_dlt : ∀ {rs : List Int} {f : Nat → Int} (r : Int), annih rs f → annih rs (dlt r f)
  | [], f, r, h => fun n => by
    unfold dlt
    rw [h, h]; omega
  | s :: rs, f, r, h => annih_congr (rs := rs) (fun n => dlt_comm r s f n) (annih_dlt (rs := rs) r h)
theorem annih_left : ∀ {rs : List Int} (ss : List Int) {f : Nat → Int}, annih rs f → annih (rs ++ ss) f
  | [], ss, f, h => annih_zero h
  | r :: rs, ss, f, h => annih_left (rs := rs) ss h
theorem annih_right {ss : List Int} : ∀ (rs : List Int) {f : Nat → Int}, annih ss f → annih (rs ++ ss) f
  | [], f, h => h
  | r :: rs, f, h => annih_right rs (annih_dlt r h)
/-- b^(n+1) times a sequence -/
theorem annih_pow {b : Int} {c : Nat} : ∀ {rs : List Int} {h : Nat → Int}, annih rs h → annih (rs.map (b * ·)) fun n => b ^ (n + c) * h n
  | [], h, a => fun n => by
    show b ^ (n + c) * h n = 0
    rw [a n]; omega
  | r :: rs, h, a => by
    refine annih_congr (rs := rs.map (b * ·)) (f := fun n => b ^ (n + (c + 1)) * dlt r h n) (fun n => ?_) (annih_pow (b := b) (c := c + 1) a)
    unfold dlt
    show b ^ (n + (c + 1)) * (h (n + 1) - r * h n) = b ^ (n + 1 + c) * h (n + 1) - b * r * (b ^ (n + c) * h n)
    rw [show n + (c + 1) = (n + c) + 1 by omega, show n + 1 + c = (n + c) + 1 by omega, Int.pow_succ]
    grind
/-- as many zeros as factors at the beginning: nothing else anywhere -/
theorem annih_all : ∀ {rs : List Int} {f : Nat → Int}, annih rs f → (∀ n, n < rs.length → f n = 0) → ∀ n, f n = 0
  | [], f, h, _ => h
  | r :: rs, f, h, z => by
    have ih := annih_all (rs := rs) (f := dlt r f) h fun n hn => by
      unfold dlt
      rw [z n (by rw [List.length_cons]; omega), z (n + 1) (by rw [List.length_cons]; omega)]; omega
    intro n
    induction n with
    | zero => exact z 0 (by rw [List.length_cons]; omega)
    | succ n hn =>
      have := ih n
      unfold dlt at this
      rw [hn] at this
      omega
end Tac

namespace Tac
/-! ### words as numbers, the nearest cell first -/
def vB (B : Int) : List Int → Int
  | [] => 0
  | x :: xs => x + B * vB B xs
theorem vB_append (B : Int) : ∀ (xs ys : List Int), vB B (xs ++ ys) = vB B xs + B ^ xs.length * vB B ys
  | [], ys => by
    show vB B ys = 0 + B ^ 0 * vB B ys
    rw [Int.pow_zero]; omega
  | x :: xs, ys => by
    show x + B * vB B (xs ++ ys) = x + B * vB B xs + B ^ (xs.length + 1) * vB B ys
    rw [vB_append B xs ys, Int.pow_succ]
    grind
theorem vB_inj {B : Nat} (b2 : 2 ≤ B) (b4 : B ≤ 4) : ∀ {xs ys : List Int}, InB B xs → InB B ys → vB B xs = vB B ys → ∀ j, xs.getD j 0 = ys.getD j 0
  | [], [], _, _, _, j => rfl
  | x :: xs, [], hx, hy, h, j => by
    have h0 := hx x List.mem_cons_self
    have h : x + (B : Int) * vB B xs = 0 := h
    have key : x = 0 ∧ vB B xs = 0 := by
      have : B = 2 ∨ B = 3 ∨ B = 4 := by omega
      rcases this with z | z | z <;> subst z <;> constructor <;> omega
    have ih := vB_inj b2 b4 (xs := xs) (ys := []) (fun y hy => hx y (List.mem_cons_of_mem _ hy)) hy key.2
    cases j with
    | zero => exact key.1
    | succ j => exact (ih j).trans rfl
  | [], y :: ys, hx, hy, h, j => by
    have h0 := hy y List.mem_cons_self
    have h : 0 = y + (B : Int) * vB B ys := h
    have key : y = 0 ∧ 0 = vB B ys := by
      have : B = 2 ∨ B = 3 ∨ B = 4 := by omega
      rcases this with z | z | z <;> subst z <;> constructor <;> omega
    have ih := vB_inj b2 b4 (xs := []) (ys := ys) hx (fun z hz => hy z (List.mem_cons_of_mem _ hz)) key.2
    cases j with
    | zero => exact key.1.symm
    | succ j => exact (rfl : ([] : List Int).getD (j + 1) 0 = ([] : List Int).getD j 0).trans (ih j)
  | x :: xs, y :: ys, hx, hy, h, j => by
    have h0 := hx x List.mem_cons_self
    have h1 := hy y List.mem_cons_self
    have h : x + (B : Int) * vB B xs = y + (B : Int) * vB B ys := h
    have key : x = y ∧ vB B xs = vB B ys := by
      have : B = 2 ∨ B = 3 ∨ B = 4 := by omega
      rcases this with z | z | z <;> subst z <;> constructor <;> omega
    have ih := vB_inj b2 b4 (xs := xs) (ys := ys) (fun y hy => hx y (List.mem_cons_of_mem _ hy)) (fun z hz => hy z (List.mem_cons_of_mem _ hz)) key.2
    cases j with
    | zero => exact key.1
    | succ j => exact ih j
theorem vB_bare (B : Int) : ∀ xs : List Int, vB B (bare xs).reverse = vB B xs.reverse
  | [] => rfl
  | x :: xs => by
    show vB B (if x = 0 then bare xs else x :: xs).reverse = _
    split
    · rename_i h
      rw [vB_bare B xs, List.reverse_cons, vB_append, h]
      show _ = _ + _ * (0 + B * 0)
      grind
    · rfl
/-! ### the cells of items, the nearest first -/
def cL (n : Int) : List Itm → List Int
  | [] => []
  | i :: r => (i.word n).reverse ++ cL n r
theorem standsL_app (n : Int) : ∀ (xs ys : List Itm), standsL n (xs ++ ys) = standsL n xs ++ standsL n ys
  | [], ys => rfl
  | x :: xs, ys => by
    show x.word n ++ standsL n (xs ++ ys) = x.word n ++ standsL n xs ++ standsL n ys
    rw [standsL_app n xs ys, List.append_assoc]
theorem cL_stands (n : Int) : ∀ L : List Itm, cL n L = (standsL n L.reverse).reverse
  | [] => rfl
  | i :: r => by
    show (i.word n).reverse ++ cL n r = _
    rw [cL_stands n r, List.reverse_cons, standsL_app, List.reverse_append]
    show _ = ((i.word n ++ []).reverse) ++ _
    rw [List.append_nil]
theorem rep_suc' (k : Nat) (r : List Int) : rep (k + 1) r = rep k r ++ r := by
  induction k with
  | zero => unfold rep; simp
  | succ k ih => rw [rep_su, ih, ← List.append_assoc, ← rep_su, ih]
theorem rep_rev (k : Nat) (r : List Int) : (rep k r).reverse = rep k r.reverse := by
  induction k with
  | zero => rfl
  | succ k ih => rw [rep_suc', List.reverse_append, ih, rep_su]
theorem rep_inB {B : Nat} {w : List Int} (h : InB B w) : ∀ k, InB B (rep k w)
  | 0 => fun x hx => nomatch hx
  | k + 1 => by
    rw [rep_su]
    exact h.append (rep_inB h k)
theorem InB.rev {B : Nat} {w : List Int} (h : InB B w) : InB B w.reverse := fun x hx => h x (List.mem_reverse.mp hx)
theorem cL_inB {B : Nat} {first n : Int} : ∀ {L : List Itm}, (∀ i ∈ L, ItmOk B first i) → InB B (cL n L)
  | [], _ => fun x hx => nomatch hx
  | i :: r, h => by
    refine InB.append (InB.rev ?_) (cL_inB fun j hj => h j (List.mem_cons_of_mem _ hj))
    have := h i List.mem_cons_self
    cases this with
    | s hx => exact fun y hy => by rw [List.mem_singleton.mp hy]; exact hx
    | b h1 h2 h3 h4 h5 => exact rep_inB h3 _
/-- the number that the cells are, as the shape's number grows -/
def seqL (B first : Int) (L : List Itm) : Nat → Int := fun k => vB B (cL (first + (k : Int)) L)
theorem seq_alg (p b x0 x1 x2 y z : Int) : p * b * (b * (x2 - 1 * x1) + -1 * (x1 - 1 * x0)) = (z + b * (z + b * y) + p * b * b * x2 - 1 * (z + b * y + p * b * x1)) - b * (z + b * y + p * b * x1 - 1 * (y + p * x0)) := by grind
theorem seq_annih {B : Nat} {first : Int} : ∀ {L : List Itm}, (∀ i ∈ L, ItmOk B first i) → ∃ rs : List Int, rs.length = (L.filter Itm.isB).length ∧ annih rs (dlt 1 (seqL B first L))
  | [], _ => ⟨[], rfl, fun n => by
    unfold dlt seqL
    show (0 : Int) - 1 * 0 = 0
    omega⟩
  | .s x :: r, h => by
    obtain ⟨rs, h1, h2⟩ := seq_annih (L := r) fun j hj => h j (List.mem_cons_of_mem _ hj)
    refine ⟨rs, h1, annih_congr (f := fun n => (B : Int) * dlt 1 (seqL B first r) n + 0 * dlt 1 (seqL B first r) n) (fun n => ?_) (annih_lin _ _ h2 h2)⟩
    have e : ∀ k, seqL B first (.s x :: r) k = x + (B : Int) * seqL B first r k := fun k => rfl
    unfold dlt
    rw [e, e]
    grind
  | .b w e :: r, h => by
    obtain ⟨rs, h1, h2⟩ := seq_annih (L := r) fun j hj => h j (List.mem_cons_of_mem _ hj)
    have hi := h (.b w e) List.mem_cons_self
    cases hi with
    | b w1 w24 wb e0 e1 =>
      obtain ⟨c, hc⟩ : ∃ c : Nat, first + e = (c : Int) := ⟨(first + e).toNat, by omega⟩
      obtain ⟨b, hb⟩ : ∃ b : Int, b = (B : Int) ^ w.length := ⟨_, rfl⟩
      have hF : ∀ k, seqL B first (.b w e :: r) k = vB B (rep (k + c) w.reverse) + b ^ (k + c) * seqL B first r k := fun k => by
        show vB B ((rep (first + (k : Int) + e).toNat w).reverse ++ cL (first + (k : Int)) r) = _
        rw [rep_rev, show (first + (k : Int) + e).toNat = k + c by omega, vB_append, rep_length, List.length_reverse, hb, ← Int.pow_mul, Nat.mul_comm]
        rfl
      have hR : ∀ k, vB B (rep (k + 1) w.reverse) = vB B w.reverse + b * vB B (rep k w.reverse) := fun k => by
        rw [rep_su, vB_append, List.length_reverse, hb]
      refine ⟨b :: rs.map (b * ·), ?_, ?_⟩
      · rw [List.length_cons, List.length_map, h1]; rfl
      · show annih (rs.map (b * ·)) (dlt b (dlt 1 (seqL B first (.b w e :: r))))
        have hG := annih_lin b (-1) (annih_shift h2) h2
        refine annih_congr (fun n => ?_) (annih_pow (b := b) (c := c + 1) hG)
        show b ^ (n + (c + 1)) * (b * dlt 1 (seqL B first r) (n + 1) + -1 * dlt 1 (seqL B first r) n) = _
        show b ^ (n + (c + 1)) * (b * (seqL B first r (n + 1 + 1) - 1 * seqL B first r (n + 1)) + -1 * (seqL B first r (n + 1) - 1 * seqL B first r n)) = (seqL B first (.b w e :: r) (n + 1 + 1) - 1 * seqL B first (.b w e :: r) (n + 1)) - b * (seqL B first (.b w e :: r) (n + 1) - 1 * seqL B first (.b w e :: r) n)
        rw [hF, hF, hF, show n + 1 + 1 + c = (n + c) + 1 + 1 by omega, show n + 1 + c = (n + c) + 1 by omega, show n + (c + 1) = (n + c) + 1 by omega, hR, hR, Int.pow_succ b (n + c + 1), Int.pow_succ b (n + c)]
        exact seq_alg _ _ _ _ _ _ _
/-! ### a shape's own items -/
theorem stands_syms (n : Int) (rest : List Itm) : ∀ w : List Int, standsL n (w.map Itm.s ++ rest) = w ++ standsL n rest
  | [] => rfl
  | x :: w => by
    show [x] ++ standsL n (w.map Itm.s ++ rest) = _
    rw [stands_syms n rest w]; rfl
theorem stands_go (n : Int) : ∀ rs ws : List (List Int), standsL n (initGo rs ws) = tapeGo n rs ws
  | [], ws => by cases ws <;> rfl
  | r :: rs, [] => rfl
  | r :: rs, w :: ws => by
    show standsL n (Itm.b r 0 :: w.map Itm.s ++ initGo rs ws) = rep n.toNat r ++ w ++ tapeGo n rs ws
    show rep (n + 0).toNat r ++ standsL n (w.map Itm.s ++ initGo rs ws) = _
    rw [stands_syms, stands_go n rs ws, Int.add_zero, List.append_assoc]
theorem stands_init (sh : Shp) (n : Int) : standsL n (initI sh) = tapeOf sh n := by
  unfold initI tapeOf
  rw [stands_syms, stands_go]
theorem blocks_go : ∀ rs ws : List (List Int), ((initGo rs ws).filter Itm.isB).length ≤ rs.length
  | [], ws => by cases ws <;> exact Nat.le_refl _
  | r :: rs, [] => Nat.zero_le _
  | r :: rs, w :: ws => by
    have ih := blocks_go rs ws
    have hs : (w.map Itm.s).filter Itm.isB = [] := by
      rw [List.filter_eq_nil_iff]
      intro i hi
      obtain ⟨x, _, rfl⟩ := List.mem_map.mp hi
      exact Bool.false_ne_true
    show ((Itm.b r 0 :: (w.map Itm.s ++ initGo rs ws)).filter Itm.isB).length ≤ _
    rw [List.filter_cons_of_pos rfl, List.filter_append, hs, List.nil_append, List.length_cons, List.length_cons]
    omega
theorem blocks_init (sh : Shp) : ((initI sh).filter Itm.isB).length ≤ sh.reps.length := by
  unfold initI
  have hs : ((sh.words.headD []).map Itm.s).filter Itm.isB = [] := by
    rw [List.filter_eq_nil_iff]
    intro i hi
    obtain ⟨x, _, rfl⟩ := List.mem_map.mp hi
    exact Bool.false_ne_true
  rw [List.filter_append, hs, List.nil_append]
  exact blocks_go _ _
theorem checkGo_at {sh : Shp} {s : Sy} : ∀ {k : Nat} {n : Int}, checkGo sh s k n = true → ∀ j : Nat, j < k → standsFor s (n + (j : Int)) = bare (tapeOf sh (n + (j : Int) + 1))
  | 0, n, _, j, hj => absurd hj (Nat.not_lt_zero _)
  | k + 1, n, h, j, hj => by
    have h : (if standsFor s n = bare (tapeOf sh (n + 1)) then checkGo sh s k (n + 1) else false) = true := h
    split at h
    · rename_i h0
      cases j with
      | zero =>
        show standsFor s (n + 0) = bare (tapeOf sh (n + 0 + 1))
        rw [Int.add_zero]; exact h0
      | succ j =>
        have := checkGo_at h j (by omega)
        rw [show n + ((j + 1 : Nat) : Int) = n + 1 + (j : Int) by omega]
        exact this
    · cases h
/-- returns, checked at a few numbers, holds at all -/
theorem returns_all {m : Mach} {B n : Nat} {sh : Shp} {s : Sy} (mo : MachOk m B) (sok : ShpOk sh m.length B) (ok : SyOk m B sh.first n s) (h : returnsS sh s = true) :
    s.st = sh.st ∧ s.sym = 0 ∧ (∀ i ∈ s.right, isZ i = true) ∧ ∀ (k j : Nat), (cL (sh.first + (k : Int)) s.left).getD j 0 = (cL (sh.first + (k : Int) + 1) (initI sh).reverse).getD j 0 := by
  unfold returnsS at h
  split at h
  · cases h
  · rename_i h1
    split at h
    · cases h
    · rename_i h2
      simp only [] at h
      split at h
      · cases h
      · rename_i h3
        have hst : s.st = sh.st := Classical.byContradiction fun z => h1 (.inl z)
        have hsy : s.sym = 0 := Classical.byContradiction fun z => h1 (.inr z)
        rw [Bool.not_eq_false, List.all_eq_true] at h2
        refine ⟨hst, hsy, h2, ?_⟩
        have i0 := (sy0_ok mo sok).l
        have i0 : ∀ i ∈ (initI sh).reverse, ItmOk B sh.first i := i0
        obtain ⟨rs, r1, r2⟩ := seq_annih ok.l
        obtain ⟨ss, s1, s2⟩ := seq_annih i0
        have hbl := blocks_init sh
        have hbr : ((initI sh).reverse.filter Itm.isB).length = ((initI sh).filter Itm.isB).length := by rw [List.filter_reverse, List.length_reverse]
        rw [hbr] at s1
        have rl2 := sok.rl2
        generalize (s.left.filter Itm.isB).length = kb at *
        have hA : annih ((1 :: rs) ++ (1 :: ss)) fun k => 1 * seqL B sh.first s.left k + (-1) * seqL B sh.first (initI sh).reverse (k + 1) :=
          annih_lin 1 (-1) (annih_left (rs := 1 :: rs) (1 :: ss) r2) (annih_right (ss := 1 :: ss) (1 :: rs) (annih_shift (rs := 1 :: ss) s2))
        have hmany : ((1 :: rs) ++ (1 :: ss)).length ≤ manyOf (if sh.reps.length > kb then sh.reps.length else kb) := by
          rw [List.length_append, List.length_cons, List.length_cons, r1, s1]
          have : ∀ g : Nat, g ≤ 2 → 2 * g + 2 ≤ manyOf g := fun g hg => by
            match g, hg with
            | 0, _ => exact Nat.le_refl _
            | 1, _ => exact Nat.le_refl _
            | 2, _ => show 6 ≤ 8; decide
          have := this (if sh.reps.length > kb then sh.reps.length else kb) (by split <;> omega)
          refine Nat.le_trans ?_ this
          split <;> omega
        have hall := annih_all hA fun k hk => by
          have hc := checkGo_at h k (by omega)
          have hv : vB (B : Int) (standsFor s (sh.first + (k : Int))).reverse = vB (B : Int) (bare (tapeOf sh (sh.first + (k : Int) + 1))).reverse := by rw [hc]
          unfold standsFor at hv
          rw [vB_bare, vB_bare, ← cL_stands] at hv
          have ht : (tapeOf sh (sh.first + (k : Int) + 1)).reverse = cL (sh.first + (k : Int) + 1) (initI sh).reverse := by
            rw [cL_stands, List.reverse_reverse, stands_init]
          rw [ht] at hv
          show 1 * vB (B : Int) (cL (sh.first + (k : Int)) s.left) + -1 * vB (B : Int) (cL (sh.first + ((k + 1 : Nat) : Int)) (initI sh).reverse) = 0
          rw [hv, show sh.first + ((k + 1 : Nat) : Int) = sh.first + (k : Int) + 1 by omega]
          omega
        intro k j
        have hk := hall k
        have hk : 1 * vB (B : Int) (cL (sh.first + (k : Int)) s.left) + -1 * vB (B : Int) (cL (sh.first + ((k + 1 : Nat) : Int)) (initI sh).reverse) = 0 := hk
        rw [show sh.first + ((k + 1 : Nat) : Int) = sh.first + (k : Int) + 1 by omega] at hk
        exact vB_inj mo.b2 mo.b4 (cL_inB ok.l) (cL_inB i0) (by omega) j
end Tac

namespace Tac
/-! ### configurations, both sides the nearest cell first -/
structure Cfg where
  st : Int
  sym : Int
  left : List Int
  right : List Int
/-- in state st, the cell x under the head, moving to the side mv: what lies ahead and behind -/
def put (mv st x : Int) (a b : List Int) : Cfg := if mv = 1 then ⟨st, x, b, a⟩ else ⟨st, x, a, b⟩
def enter (mv st : Int) (a b : List Int) : Cfg := put mv st (a.headD 0) a.tail b
def stepC (m : Mach) (c : Cfg) : Cfg :=
  if (ruleOf m c.st c.sym).2.1 = 1 then enter 1 (ruleOf m c.st c.sym).2.2 c.right ((ruleOf m c.st c.sym).1 :: c.left)
  else enter (-1) (ruleOf m c.st c.sym).2.2 c.left ((ruleOf m c.st c.sym).1 :: c.right)
inductive Steps (m : Mach) : Cfg → Nat → Cfg → Prop
  | zero (c : Cfg) : Steps m c 0 c
  | succ {c : Cfg} {k : Nat} {c' : Cfg} : (ruleOf m c.st c.sym).2.2 ≠ -1 → Steps m (stepC m c) k c' → Steps m c (k + 1) c'
theorem Steps.trans {m : Mach} {c c' c'' : Cfg} {j k : Nat} (h : Steps m c j c') (h2 : Steps m c' k c'') : Steps m c (j + k) c'' := by
  induction h with
  | zero c => rw [Nat.zero_add]; exact h2
  | succ h1 _ ih =>
    rename_i c0 k0 c1 h3
    rw [show k0 + 1 + k = (k0 + k) + 1 by omega]
    exact .succ h1 (ih h2)
theorem Steps.is {m : Mach} {c c' d d' : Cfg} {k : Nat} (h : Steps m c k c') (e : c = d) (e' : c' = d') : Steps m d k d' := by rw [← e, ← e']; exact h
/-- inside a word: P before the head's cell c, Q behind it; X and Y on the outer sides -/
def insC (P : List Int) (c : Int) (Q X Y : List Int) (st : Int) : Cfg := ⟨st, c, P.reverse ++ X, Q ++ Y⟩
theorem getD_mid (P : List Int) (c : Int) (Q : List Int) : (P ++ c :: Q).getD P.length 0 = c := by
  rw [List.getD_eq_getElem?_getD, List.getElem?_append_right (Nat.le_refl _), Nat.sub_self]; rfl
theorem set_mid (P : List Int) (c x : Int) (Q : List Int) : (P ++ c :: Q).set P.length x = P ++ x :: Q := by
  rw [List.set_append_right _ _ (Nat.le_refl _), Nat.sub_self]; rfl
theorem snoc_cases (l : List Int) : l = [] ∨ ∃ L b, l = L ++ [b] := by
  rcases List.eq_nil_or_concat l with h | ⟨L, b, h⟩
  · exact .inl h
  · exact .inr ⟨L, b, by rw [h, List.concat_eq_append]⟩
theorem crossGo_steps {m : Mach} {B : Nat} (mo : MachOk m B) {st0 mv : Int} (hmv : mv = 1 ∨ mv = -1) {X Y : List Int} : ∀ {f : Nat} {st : Int} {P Q : List Int} {c : Int} {w2 : List Int}, 0 ≤ st → st < m.length → InB B (P ++ c :: Q) → crossGo m st0 mv f st (P.length : Int) (P ++ c :: Q) = some w2 →
    ∃ k, Steps m (insC P c Q X Y st) k (if mv = 1 then enter 1 st0 Y (w2.reverse ++ X) else enter (-1) st0 X (w2 ++ Y))
  | 0, _, _, _, _, _, _, _, _, h => by cases h
  | f + 1, st, P, Q, c, w2, h0, h1, hb, h => by
    have hc : 0 ≤ c ∧ c < B := hb c (List.mem_append_right _ List.mem_cons_self)
    obtain ⟨_, _, _, _, r1, r2, r3, r4, r5⟩ := ruleOf_at mo ⟨h0, h1⟩ hc
    unfold crossGo at h
    rw [Int.toNat_natCast, getD_mid] at h
    simp only [] at h
    have hstep : stepC m (insC P c Q X Y st) = if (ruleOf m st c).2.1 = 1 then enter 1 (ruleOf m st c).2.2 (Q ++ Y) ((ruleOf m st c).1 :: (P.reverse ++ X)) else enter (-1) (ruleOf m st c).2.2 (P.reverse ++ X) ((ruleOf m st c).1 :: (Q ++ Y)) := rfl
    have hfirst : (ruleOf m (insC P c Q X Y st).st (insC P c Q X Y st).sym).2.2 = (ruleOf m st c).2.2 := rfl
    generalize hu : ruleOf m st c = u at *
    obtain ⟨uw, um, us⟩ := u
    simp only [] at h hstep hfirst r1 r2 r3 r4 r5
    split at h
    · cases h
    · rename_i hns
      rw [set_mid, List.length_append, List.length_cons] at h
      have hb2 : InB B (P ++ uw :: Q) := fun y hy => by
        rcases List.mem_append.mp hy with z | z
        · exact hb y (List.mem_append_left _ z)
        · rcases List.mem_cons.mp z with z | z
          · rw [z]; exact ⟨r1, r2⟩
          · exact hb y (List.mem_append_right _ (List.mem_cons_of_mem _ z))
      split at h
      · rename_i hout
        split at h
        · rename_i hcond
          obtain ⟨e1, e2⟩ := hcond
          cases h
          refine ⟨1, .succ (by rw [hfirst]; exact hns) ?_⟩
          rw [hstep]
          rcases r3 with z | z
          · have hQ : Q = [] := List.length_eq_zero_iff.mp (by omega)
            have hmv1 : mv = 1 := by
              rcases hmv with y | y
              · exact y
              · have : decide ((P.length : Int) + um < 0) = false := decide_eq_false (by omega)
                rw [this, y] at e2
                cases e2
            rw [if_pos z, if_pos hmv1, e1, hQ]
            have : (P ++ [uw]).reverse ++ X = uw :: (P.reverse ++ X) := by simp
            rw [this]
            exact .zero _
          · have hP : P = [] := List.length_eq_zero_iff.mp (by omega)
            have hmv1 : ¬ mv = 1 := by
              intro y
              have : decide ((P.length : Int) + um < 0) = true := decide_eq_true (by omega)
              rw [this, y] at e2
              cases e2
            rw [if_neg (by omega), if_neg hmv1, e1, hP]
            exact .zero _
        · cases h
      · rename_i hin
        rcases r3 with z | z
        · cases Q with
          | nil => exact absurd (.inr (by simp; omega)) hin
          | cons q Q2 =>
            have h2 : crossGo m st0 mv f us ((P ++ [uw]).length : Int) ((P ++ [uw]) ++ q :: Q2) = some w2 := by
              rw [show (P ++ [uw]) ++ q :: Q2 = P ++ uw :: q :: Q2 by simp, show (((P ++ [uw]).length : Nat) : Int) = (P.length : Int) + um by rw [List.length_append, z]; simp]
              exact h
            obtain ⟨k, hk⟩ := crossGo_steps mo hmv (X := X) (Y := Y) (by omega) r5 (by rw [show (P ++ [uw]) ++ q :: Q2 = P ++ uw :: q :: Q2 by simp]; exact hb2) h2
            refine ⟨k + 1, .succ (by rw [hfirst]; exact hns) ?_⟩
            rw [hstep, if_pos z]
            refine hk.is ?_ rfl
            show (⟨us, q, (P ++ [uw]).reverse ++ X, Q2 ++ Y⟩ : Cfg) = ⟨us, q, uw :: (P.reverse ++ X), Q2 ++ Y⟩
            simp
        · rcases snoc_cases P with hP | ⟨P2, p, hP⟩
          · subst hP
            exact absurd (.inl (by rw [z]; show (0 : Int) + -1 < 0; decide)) hin
          · subst hP
            have h2 : crossGo m st0 mv f us (P2.length : Int) (P2 ++ p :: (uw :: Q)) = some w2 := by
              rw [show P2 ++ p :: uw :: Q = P2 ++ [p] ++ uw :: Q by simp, show (P2.length : Int) = ((P2 ++ [p]).length : Int) + um by rw [List.length_append, z]; show (P2.length : Int) = ((P2.length + 1 : Nat) : Int) + -1; omega]
              exact h
            obtain ⟨k, hk⟩ := crossGo_steps mo hmv (X := X) (Y := Y) (by omega) r5 (by rw [show P2 ++ p :: uw :: Q = P2 ++ [p] ++ uw :: Q by simp]; exact hb2) h2
            refine ⟨k + 1, .succ (by rw [hfirst]; exact hns) ?_⟩
            rw [hstep, if_neg (by omega)]
            refine hk.is ?_ rfl
            show (⟨us, p, P2.reverse ++ X, uw :: Q ++ Y⟩ : Cfg) = enter (-1) us ((P2 ++ [p]).reverse ++ X) (uw :: (Q ++ Y))
            rw [List.reverse_append]
            rfl
/-- the cells of a word as they lie ahead of a head that moves to the side mv -/
def oA (mv : Int) (w : List Int) : List Int := if mv = 1 then w else w.reverse
theorem crossed_steps {m : Mach} {B : Nat} (mo : MachOk m B) {st mv : Int} (hmv : mv = 1 ∨ mv = -1) {w w2 : List Int} (h0 : 0 ≤ st) (h1 : st < m.length) (hw : 1 ≤ w.length) (hb : InB B w) (h : crossed m st w mv = some w2) (rest beh : List Int) :
    ∃ k, Steps m (enter mv st (oA mv w ++ rest) beh) k (enter mv st rest (oA (-mv) w2 ++ beh)) := by
  unfold crossed at h
  rcases hmv with z | z
  · subst z
    cases w with
    | nil => simp at hw
    | cons c Q =>
      obtain ⟨k, hk⟩ := crossGo_steps mo (.inl rfl) (X := beh) (Y := rest) (P := []) h0 h1 hb h
      exact ⟨k, hk.is rfl (by rw [if_pos rfl]; rfl)⟩
  · subst z
    rcases snoc_cases w with hP | ⟨P, c, hP⟩
    · subst hP
      simp at hw
    · subst hP
      have h : crossGo m st (-1) 500 st (P.length : Int) (P ++ [c]) = some w2 := by
        rw [if_neg (by decide), show (((P ++ [c]).length : Nat) : Int) - 1 = (P.length : Int) by rw [List.length_append]; simp] at h
        exact h
      obtain ⟨k, hk⟩ := crossGo_steps mo (.inr rfl) (X := rest) (Y := beh) (Q := []) h0 h1 hb h
      refine ⟨k, hk.is ?_ (by rw [if_neg (by decide)]; rfl)⟩
      show (⟨st, c, P.reverse ++ rest, beh⟩ : Cfg) = enter (-1) st ((P ++ [c]).reverse ++ rest) beh
      rw [List.reverse_append]
      rfl
theorem oA_suc {mv : Int} (k : Nat) (w : List Int) : oA mv (rep (k + 1) w) = oA mv w ++ oA mv (rep k w) := by
  unfold oA
  split
  · exact rep_su k w
  · rw [rep_suc', List.reverse_append]
theorem oA_suc' {mv : Int} (k : Nat) (w : List Int) : oA mv (rep (k + 1) w) = oA mv (rep k w) ++ oA mv w := by
  unfold oA
  split
  · exact rep_suc' k w
  · rw [rep_su, List.reverse_append]
theorem cross_rep {m : Mach} {B : Nat} (mo : MachOk m B) {st mv : Int} (hmv : mv = 1 ∨ mv = -1) {w w2 : List Int} (h0 : 0 ≤ st) (h1 : st < m.length) (hw : 1 ≤ w.length) (hb : InB B w) (h : crossed m st w mv = some w2) (rest : List Int) : ∀ (N : Nat) (beh : List Int),
    ∃ k, Steps m (enter mv st (oA mv (rep N w) ++ rest) beh) k (enter mv st rest (oA (-mv) (rep N w2) ++ beh))
  | 0, beh => ⟨0, by
    have e : ∀ mv : Int, oA mv (rep 0 w) = [] := fun mv => by unfold oA; split <;> rfl
    have e2 : ∀ mv : Int, oA mv (rep 0 w2) = [] := fun mv => by unfold oA; split <;> rfl
    rw [e, e2]
    exact .zero _⟩
  | N + 1, beh => by
    obtain ⟨k1, s1⟩ := crossed_steps mo hmv h0 h1 hw hb h (oA mv (rep N w) ++ rest) beh
    obtain ⟨k2, s2⟩ := cross_rep mo hmv h0 h1 hw hb h rest N (oA (-mv) w2 ++ beh)
    refine ⟨k1 + k2, (s1.trans s2).is ?_ ?_⟩
    · rw [oA_suc, List.append_assoc]
    · rw [oA_suc', List.append_assoc]
/-- the cells of items as they lie ahead of a head that moves to the side mv -/
def cO (mv n : Int) : List Itm → List Int
  | [] => []
  | i :: r => oA mv (i.word n) ++ cO mv n r
theorem cO_app (mv n : Int) : ∀ xs ys : List Itm, cO mv n (xs ++ ys) = cO mv n xs ++ cO mv n ys
  | [], ys => rfl
  | x :: xs, ys => by
    show oA mv (x.word n) ++ cO mv n (xs ++ ys) = oA mv (x.word n) ++ cO mv n xs ++ cO mv n ys
    rw [cO_app mv n xs ys, List.append_assoc]
theorem cO_syms (mv n : Int) : ∀ w : List Int, cO mv n (w.map Itm.s) = w
  | [] => rfl
  | x :: w => by
    show oA mv [x] ++ cO mv n (w.map Itm.s) = _
    rw [cO_syms mv n w]
    have : oA mv [x] = [x] := by unfold oA; split <;> rfl
    rw [this]; rfl
theorem cO_left (n : Int) : ∀ L : List Itm, cO (-1) n L = cL n L
  | [] => rfl
  | i :: r => by
    show oA (-1) (i.word n) ++ cO (-1) n r = (i.word n).reverse ++ cL n r
    rw [cO_left n r]; rfl
theorem goA_steps {m : Mach} {B : Nat} (mo : MachOk m B) {st mv first n : Int} (hmv : mv = 1 ∨ mv = -1) (h0 : 0 ≤ st) (h1 : st < m.length) (hn : first ≤ n) : ∀ {a beh : List Itm} {x : Int} {r l : List Itm}, (∀ i ∈ a, ItmOk B first i) → goA m st mv first a beh = some (x, r, l) →
    ∃ k, Steps m (enter mv st (cO mv n a) (cO (-mv) n beh)) k (put mv st x (cO mv n r) (cO (-mv) n l))
  | [], beh, x, r, l, ha, h => by
    cases h
    exact ⟨0, .zero _⟩
  | .s y :: a, beh, x, r, l, ha, h => by
    cases h
    refine ⟨0, ?_⟩
    have : cO mv n (.s y :: a) = y :: cO mv n a := by
      show oA mv [y] ++ _ = _
      have : oA mv [y] = [y] := by unfold oA; split <;> rfl
      rw [this]; rfl
    rw [this]
    exact .zero _
  | .b w e :: a, beh, x, r, l, ha, h => by
    have hw := ha (.b w e) List.mem_cons_self
    obtain ⟨w1, wb⟩ : 1 ≤ w.length ∧ InB B w := by
      cases hw with
      | b h1 h2 h3 h4 h5 => exact ⟨h1, h3⟩
    have ha2 : ∀ i ∈ a, ItmOk B first i := fun i hi => ha i (List.mem_cons_of_mem _ hi)
    unfold goA at h
    cases hc : crossed m st w mv with
    | some w2 =>
      rw [hc] at h
      obtain ⟨k1, s1⟩ := cross_rep mo hmv h0 h1 w1 wb hc (cO mv n a) (n + e).toNat (cO (-mv) n beh)
      obtain ⟨k2, s2⟩ := goA_steps mo hmv h0 h1 hn (a := a) (beh := .b w2 e :: beh) ha2 h
      exact ⟨k1 + k2, s1.trans s2⟩
    | none =>
      rw [hc] at h
      simp only [] at h
      split at h
      · cases h
      · rename_i hne
        obtain ⟨y, t, q1, q2, q3⟩ := splitA_cons (e := e) (move := mv) (r := a) w1
        have hcell : cO mv n (splitA w e mv a) = cO mv n (.b w e :: a) := by
          unfold splitA
          rw [cO_app, cO_syms]
          show (if mv = -1 then w.reverse else w) ++ (oA mv (rep (n + (e - 1)).toNat w) ++ cO mv n a) = oA mv (rep (n + e).toNat w) ++ cO mv n a
          rw [show (n + e).toNat = (n + (e - 1)).toNat + 1 by omega, oA_suc, List.append_assoc]
          congr 1
          unfold oA
          rcases hmv with z | z
          · rw [if_neg (by omega), if_pos z]
          · rw [if_pos z, if_neg (by omega)]
        rw [q1] at h
        cases h
        refine ⟨0, ?_⟩
        rw [← hcell, q1]
        have : cO mv n (.s y :: r) = y :: cO mv n r := by
          show oA mv [y] ++ _ = _
          have : oA mv [y] = [y] := by unfold oA; split <;> rfl
          rw [this]; rfl
        rw [this]
        exact .zero _
/-- what a symbolic configuration stands for -/
def den (n : Int) (s : Sy) : Cfg := ⟨s.st, s.sym, cO (-1) n s.left, cO 1 n s.right⟩
theorem moveS_steps {m : Mach} {B : Nat} (mo : MachOk m B) {first n : Int} {N : Nat} {s s2 : Sy} (hn : first ≤ n) (ok : SyOk m B first N s) (h : moveS m first s = some s2) : ∃ k, 1 ≤ k ∧ Steps m (den n s) k (den n s2) := by
  obtain ⟨_, _, _, _, r1, r2, r3, r4, r5⟩ := ruleOf_at mo ⟨ok.st0, ok.st1⟩ ok.sy
  have hstep : stepC m (den n s) = if (ruleOf m s.st s.sym).2.1 = 1 then enter 1 (ruleOf m s.st s.sym).2.2 (cO 1 n s.right) ((ruleOf m s.st s.sym).1 :: cO (-1) n s.left) else enter (-1) (ruleOf m s.st s.sym).2.2 (cO (-1) n s.left) ((ruleOf m s.st s.sym).1 :: cO 1 n s.right) := rfl
  have hfirst : (ruleOf m (den n s).st (den n s).sym).2.2 = (ruleOf m s.st s.sym).2.2 := rfl
  have hcons : ∀ (mv x : Int) (xs : List Itm), cO mv n (.s x :: xs) = x :: cO mv n xs := fun mv x xs => by
    show oA mv [x] ++ _ = _
    have : oA mv [x] = [x] := by unfold oA; split <;> rfl
    rw [this]; rfl
  unfold moveS at h
  generalize ruleOf m s.st s.sym = u at *
  obtain ⟨uw, um, us⟩ := u
  simp only [] at h hstep hfirst r1 r2 r3 r4 r5
  split at h
  · cases h
  · rename_i hns
    split at h
    · rename_i hm
      subst hm
      split at h
      · rename_i x r l hg
        cases h
        obtain ⟨k, hk⟩ := goA_steps mo (.inl rfl) (by omega) r5 hn ok.r hg
        refine ⟨k + 1, by omega, .succ (by rw [hfirst]; exact hns) ?_⟩
        rw [hstep, if_pos rfl]
        refine hk.is ?_ rfl
        rw [hcons]
      · cases h
    · rename_i hm
      have hm1 : um = -1 := by rcases r3 with z | z; exact absurd z hm; exact z
      subst hm1
      split at h
      · rename_i x l r hg
        cases h
        obtain ⟨k, hk⟩ := goA_steps mo (.inr rfl) (by omega) r5 hn ok.l hg
        refine ⟨k + 1, by omega, .succ (by rw [hfirst]; exact hns) ?_⟩
        rw [hstep, if_neg (by decide)]
        refine hk.is ?_ rfl
        rw [hcons]; rfl
      · cases h
theorem growsGo_steps {m : Mach} {B : Nat} (mo : MachOk m B) {sh : Shp} : ∀ {f N : Nat} {s : Sy}, SyOk m B sh.first N s → growsGo m sh f s = true → ∃ (s2 : Sy) (N2 : Nat), SyOk m B sh.first N2 s2 ∧ returnsS sh s2 = true ∧ ∀ n : Int, sh.first ≤ n → ∃ k, 1 ≤ k ∧ Steps m (den n s) k (den n s2)
  | 0, _, _, _, h => by cases h
  | f + 1, N, s, ok, h => by
    unfold growsGo at h
    split at h
    · cases h
    · rename_i s2 hm
      have ok2 := moveS_ok mo ok hm
      split at h
      · rename_i hr
        exact ⟨s2, _, ok2, hr, fun n hn => moveS_steps mo hn ok hm⟩
      · obtain ⟨s3, N3, ok3, hr3, hst⟩ := growsGo_steps mo ok2 h
        refine ⟨s3, N3, ok3, hr3, fun n hn => ?_⟩
        obtain ⟨k1, a1, b1⟩ := moveS_steps mo hn ok hm
        obtain ⟨k2, a2, b2⟩ := hst n hn
        exact ⟨k1 + k2, by omega, b1.trans b2⟩
end Tac

namespace Tac
/-! ### real runs -/
def tapeAt (r : Rn) (p : Int) : Int := (mget r.tape p).getD 0
theorem mget_snoc {t : List (Int × Int)} {k v p : Int} : mget (t ++ [(k, v)]) p = (mget t p).or (if k = p then some v else none) := by
  induction t with
  | nil =>
    show mget [(k, v)] p = _
    unfold mget
    by_cases h : k = p <;> simp [h]
  | cons e t ih =>
    unfold mget at ih ⊢
    by_cases h : e.1 = p
    · simp [h]
    · simp only [List.cons_append, List.find?_cons, h, decide_false]
      exact ih
theorem mget_map_ne {t : List (Int × Int)} {k v p : Int} (h : p ≠ k) : mget (t.map fun e => if e.1 = k then (e.1, v) else e) p = mget t p := by
  induction t with
  | nil => rfl
  | cons e t ih =>
    unfold mget at ih ⊢
    rw [List.map_cons, List.find?_cons, List.find?_cons]
    have e1 : (if e.1 = k then (e.1, v) else e).1 = e.1 := by split <;> rfl
    rw [e1]
    by_cases hp : e.1 = p
    · have : ¬ e.1 = k := fun z => h (by rw [← hp, z])
      simp [hp, this]
      rw [if_neg (by rw [← hp]; exact this)]
    · simp only [hp, decide_false]
      exact ih
theorem mget_map_eq {t : List (Int × Int)} {k v : Int} (h : (t.any fun e => decide (e.1 = k)) = true) : mget (t.map fun e => if e.1 = k then (e.1, v) else e) k = some v := by
  induction t with
  | nil => cases h
  | cons e t ih =>
    unfold mget at ih ⊢
    rw [List.map_cons, List.find?_cons]
    have e1 : (if e.1 = k then (e.1, v) else e).1 = e.1 := by split <;> rfl
    rw [e1]
    by_cases hp : e.1 = k
    · simp [hp]
    · simp only [hp, decide_false]
      rw [List.any_cons] at h
      simp only [hp, decide_false, Bool.false_or] at h
      exact ih h
theorem mget_none_of {t : List (Int × Int)} {k : Int} (h : ¬ (t.any fun e => decide (e.1 = k)) = true) : mget t k = none := by
  unfold mget
  rw [Option.map_eq_none_iff, List.find?_eq_none]
  intro e he z
  exact h (List.any_eq_true.mpr ⟨e, he, z⟩)
theorem mget_mput (t : List (Int × Int)) (k v p : Int) : mget (mput t k v) p = if p = k then some v else mget t p := by
  unfold mput
  split
  · rename_i h
    by_cases hp : p = k
    · rw [if_pos hp, hp]; exact mget_map_eq h
    · rw [if_neg hp]; exact mget_map_ne hp
  · rename_i h
    rw [mget_snoc]
    by_cases hp : p = k
    · rw [if_pos hp, hp, mget_none_of h, if_pos rfl]; rfl
    · rw [if_neg hp, if_neg (fun z => hp z.symm)]
      cases mget t p <;> rfl
theorem tapeAt_step (m : Mach) (r : Rn) (p : Int) : tapeAt (r.step m) p = if p = r.place then (ruleOf m r.state r.sym).1 else tapeAt r p := by
  show (mget (mput r.tape r.place (ruleOf m r.state r.sym).1) p).getD 0 = _
  rw [mget_mput]
  split <;> rfl
/-- a run's configuration is c -/
structure Rel (r : Rn) (c : Cfg) : Prop where
  st : r.state = c.st
  sy : tapeAt r r.place = c.sym
  l : ∀ j : Nat, tapeAt r (r.place - 1 - (j : Int)) = c.left.getD j 0
  r : ∀ j : Nat, tapeAt r (r.place + 1 + (j : Int)) = c.right.getD j 0
theorem headD_getD (l : List Int) : l.headD 0 = l.getD 0 0 := by cases l <;> rfl
theorem tail_getD (l : List Int) (j : Nat) : l.tail.getD j 0 = l.getD (j + 1) 0 := by cases l <;> rfl
theorem Rel.step {m : Mach} {B : Nat} {r : Rn} {c : Cfg} (mo : MachOk m B) (ok : RnOk m B r) (h0 : 0 ≤ r.state) (h : Rel r c) : Rel (r.step m) (stepC m c) := by
  obtain ⟨_, _, _, _, r1, r2, r3, r4, r5⟩ := ruleOf_at mo ⟨h0, ok.s1⟩ (ok.sym mo)
  have hu : ruleOf m c.st c.sym = ruleOf m r.state r.sym := by rw [← h.st, ← h.sy]; rfl
  have hT := tapeAt_step m r
  have hpl : (r.step m).place = r.place + (ruleOf m r.state r.sym).2.1 := rfl
  have hst : (r.step m).state = (ruleOf m r.state r.sym).2.2 := rfl
  unfold stepC
  rw [hu]
  generalize ruleOf m r.state r.sym = u at *
  obtain ⟨uw, um, us⟩ := u
  simp only [] at r3 hT hpl hst ⊢
  rcases r3 with z | z
  · rw [if_pos z]
    rw [z] at hpl
    refine ⟨hst, ?_, fun j => ?_, fun j => ?_⟩
    · rw [hT, hpl, if_neg (by omega)]
      show _ = c.right.headD 0
      rw [headD_getD, ← h.r 0]
      congr 1; omega
    · rw [hT, hpl]
      show _ = (uw :: c.left).getD j 0
      cases j with
      | zero => rw [if_pos (by omega)]; rfl
      | succ j =>
        rw [if_neg (by omega)]
        show _ = c.left.getD j 0
        rw [← h.l j]
        congr 1; omega
    · rw [hT, hpl, if_neg (by omega)]
      show _ = c.right.tail.getD j 0
      rw [tail_getD, ← h.r (j + 1)]
      congr 1; omega
  · rw [if_neg (by omega)]
    rw [z] at hpl
    refine ⟨hst, ?_, fun j => ?_, fun j => ?_⟩
    · rw [hT, hpl, if_neg (by omega)]
      show _ = c.left.headD 0
      rw [headD_getD, ← h.l 0]
      congr 1; omega
    · rw [hT, hpl, if_neg (by omega)]
      show _ = c.left.tail.getD j 0
      rw [tail_getD, ← h.l (j + 1)]
      congr 1; omega
    · rw [hT, hpl]
      show _ = (uw :: c.right).getD j 0
      cases j with
      | zero => rw [if_pos (by omega)]; rfl
      | succ j =>
        rw [if_neg (by omega)]
        show _ = c.right.getD j 0
        rw [← h.r j]
        congr 1; omega
theorem run_one {m : Mach} {n : Nat} {r : Rn} (h : r.state ≠ -1) : Rn.run m (n + 1) r = Rn.run m n (r.step m) := by
  show (if r.state = -1 then r else _) = _
  rw [if_neg h]
theorem run_halt {m : Mach} {r : Rn} (h : r.state = -1) : ∀ n, Rn.run m n r = r
  | 0 => rfl
  | n + 1 => by show (if r.state = -1 then r else _) = r; rw [if_pos h]
theorem run_add {m : Mach} : ∀ {a b : Nat} {r : Rn}, Rn.run m (a + b) r = Rn.run m b (Rn.run m a r)
  | 0, b, r => by rw [Nat.zero_add]; rfl
  | a + 1, b, r => by
    by_cases h : r.state = -1
    · rw [run_halt h, run_halt h, run_halt h]
    · rw [show a + 1 + b = (a + b) + 1 by omega, run_one h, run_one h, run_add]
theorem steps_run {m : Mach} {B : Nat} (mo : MachOk m B) {c c' : Cfg} {k : Nat} (h : Steps m c k c') : ∀ {r : Rn}, Rel r c → RnOk m B r → 0 ≤ r.state → Rel (Rn.run m k r) c' ∧ 0 ≤ (Rn.run m k r).state ∧ RnOk m B (Rn.run m k r) := by
  induction h with
  | zero c => exact fun h1 h2 h3 => ⟨h1, h3, h2⟩
  | succ hne _ ih =>
    intro r h1 h2 h3
    rw [run_one (by omega)]
    have h4 : (r.step m).state ≠ -1 := by
      show (ruleOf m r.state (tapeAt r r.place)).2.2 ≠ -1
      rw [h1.st, h1.sy]; exact hne
    have ok2 := h2.step mo h3
    exact ih (h1.step mo h2 h3) ok2 (by have := ok2.s0; omega)
/-! ### what has_shape says of the tape -/
theorem bare_getD : ∀ (xs : List Int) (j : Nat), (bare xs).reverse.getD j 0 = xs.reverse.getD j 0
  | [], j => rfl
  | x :: xs, j => by
    show (if x = 0 then bare xs else x :: xs).reverse.getD j 0 = _
    split
    · rename_i h
      rw [bare_getD xs j, List.reverse_cons, h]
      simp only [List.getD_eq_getElem?_getD]
      by_cases hj : j < xs.reverse.length
      · rw [List.getElem?_append_left hj]
      · rw [List.getElem?_append_right (by omega), List.getElem?_eq_none (by omega)]
        cases j - xs.reverse.length with
        | zero => rfl
        | succ k => rfl
    · rfl
theorem nz_of {r : Rn} {p : Int} (h : tapeAt r p ≠ 0) : p ∈ r.nz := by
  unfold Rn.nz
  refine List.mem_filter.mpr ⟨?_, decide_eq_true h⟩
  unfold tapeAt at h
  cases hm : mget r.tape p with
  | none => rw [hm] at h; exact absurd rfl h
  | some v => exact List.mem_map.mpr ⟨_, mget_mem hm, rfl⟩
/-- what lies where the cells end -/
theorem cells_nil {r : Rn} (h : r.cells.2 = []) (p : Int) : tapeAt r p = 0 := by
  refine Classical.byContradiction fun z => ?_
  have hm := nz_of z
  unfold Rn.cells at h
  cases hz : r.nz with
  | nil => rw [hz] at hm; cases hm
  | cons a rest =>
    rw [hz] at h
    have hl := congrArg List.length h
    have hl : ((List.range (maxL a rest + 1 - minL a rest).toNat).map _).length = 0 := hl
    rw [List.length_map, List.length_range] at hl
    have := (minL_spec rest a).2.1
    have := (maxL_spec rest a).2.1
    omega
theorem cells_cons {r : Rn} (h : r.cells.2 ≠ []) : (∀ p, tapeAt r p ≠ 0 → r.cells.1 ≤ p ∧ p < r.cells.1 + (r.cells.2.length : Int)) ∧ ∀ k : Nat, k < r.cells.2.length → r.cells.2.getD k 0 = tapeAt r (r.cells.1 + (k : Int)) := by
  cases hz : r.nz with
  | nil =>
    unfold Rn.cells at h
    rw [hz] at h
    exact absurd rfl h
  | cons a rest =>
    have hc : r.cells = (minL a rest, (List.range (maxL a rest + 1 - minL a rest).toNat).map fun (k : Nat) => (mget r.tape (minL a rest + (k : Int))).getD 0) := by
      unfold Rn.cells
      rw [hz]
    rw [hc]
    obtain ⟨i1, i2, i3⟩ := minL_spec rest a
    obtain ⟨x1, x2, x3⟩ := maxL_spec rest a
    refine ⟨fun p hp => ?_, fun k hk => ?_⟩
    · have hm := nz_of hp
      rw [hz] at hm
      show minL a rest ≤ p ∧ p < minL a rest + (((List.range (maxL a rest + 1 - minL a rest).toNat).map _).length : Int)
      rw [List.length_map, List.length_range]
      rcases List.mem_cons.mp hm with z | z
      · rw [z]; omega
      · have := i3 p z; have := x3 p z; omega
    · have hk : k < ((List.range (maxL a rest + 1 - minL a rest).toNat).map _).length := hk
      rw [List.length_map, List.length_range] at hk
      show ((List.range (maxL a rest + 1 - minL a rest).toNat).map _).getD k 0 = _
      rw [List.getD_eq_getElem?_getD, List.getElem?_map, List.getElem?_range hk]
      rfl
theorem has_rel {m : Mach} {n : Nat} {sh : Shp} (h : hasOn m n sh = true) : Rel (Rn.run m n rn0) ⟨sh.st, 0, (tapeOf sh sh.first).reverse, []⟩ ∧ (Rn.run m n rn0).state ≠ -1 ∧ grows m sh = true := by
  unfold hasOn at h
  generalize Rn.run m n rn0 = r at *
  split at h
  · cases h
  · rename_i h1
    have hst : r.state = sh.st := Classical.byContradiction fun z => h1 (.inr z)
    have hne : r.state ≠ -1 := fun z => h1 (.inl z)
    split at h
    · cases h
    · rename_i h2
      split at h
      · rename_i hc
        have q := Bool.and_eq_true_iff.mp h
        have hb : bare (tapeOf sh sh.first) = [] := of_decide_eq_true q.1
        have hz := cells_nil hc
        refine ⟨⟨hst, hz _, fun j => ?_, fun j => hz _⟩, hne, q.2⟩
        rw [hz, ← bare_getD, hb]
        rfl
      · rename_i hc
        have q := Bool.and_eq_true_iff.mp h
        have hb := of_decide_eq_true q.1
        obtain ⟨c1, c2⟩ := cells_cons hc
        have hle : r.cells.1 + (r.cells.2.length : Int) ≤ r.place := Classical.byContradiction fun z => h2 (.inr ⟨hc, by omega⟩)
        have hright : ∀ p, r.place ≤ p → tapeAt r p = 0 := fun p hp => Classical.byContradiction fun z => by
          have := (c1 p z).2
          omega
        refine ⟨⟨hst, hright _ (Int.le_refl _), fun j => ?_, fun j => hright _ (by omega)⟩, hne, q.2⟩
        show _ = (tapeOf sh sh.first).reverse.getD j 0
        rw [← bare_getD, ← hb]
        generalize hce : r.cells = ce at *
        obtain ⟨f, cs⟩ := ce
        simp only [] at *
        rw [List.reverse_append, List.reverse_replicate, List.getD_eq_getElem?_getD]
        by_cases hj : j < (r.place - f - (cs.length : Int)).toNat
        · rw [List.getElem?_append_left (by rw [List.length_replicate]; exact hj), List.getElem?_replicate, if_pos hj]
          show _ = (0 : Int)
          refine Classical.byContradiction fun z => ?_
          have := (c1 _ z).2
          omega
        · rw [List.getElem?_append_right (by rw [List.length_replicate]; omega), List.length_replicate]
          by_cases hj2 : j - (r.place - f - (cs.length : Int)).toNat < cs.length
          · rw [List.getElem?_reverse hj2, ← List.getD_eq_getElem?_getD, c2 _ (by omega)]
            congr 1
            omega
          · rw [List.getElem?_eq_none (by rw [List.length_reverse]; omega)]
            show _ = (0 : Int)
            refine Classical.byContradiction fun z => ?_
            have := (c1 _ z).1
            omega
theorem isAt_of {r : Rn} {sh : Shp} {n : Int} (h : Rel r ⟨sh.st, 0, (tapeOf sh n).reverse, []⟩) : isAt r sh n = true := by
  unfold isAt
  rw [if_neg (fun z => z h.st)]
  have hl : ∀ j : Nat, tapeAt r (r.place - 1 - (j : Int)) = (tapeOf sh n).reverse.getD j 0 := h.l
  have hr : ∀ j : Nat, tapeAt r (r.place + 1 + (j : Int)) = 0 := h.r
  have hs : tapeAt r r.place = 0 := h.sy
  generalize tapeOf sh n = cs at *
  refine Bool.and_eq_true_iff.mpr ⟨List.all_eq_true.mpr fun e he => ?_, List.all_eq_true.mpr fun k hk => ?_⟩
  · rw [Bool.not_eq_true', Bool.and_eq_false_iff]
    by_cases hz : tapeAt r e.1 = 0
    · exact .inl (decide_eq_false fun z => z hz)
    · refine .inr (Bool.or_eq_false_iff.mpr ⟨decide_eq_false fun z => ?_, decide_eq_false fun z => ?_⟩)
      · refine hz ?_
        have := hl (r.place - 1 - e.1).toNat
        rw [show r.place - 1 - (((r.place - 1 - e.1).toNat : Nat) : Int) = e.1 by omega] at this
        rw [this, List.getD_eq_getElem?_getD, List.getElem?_eq_none (by rw [List.length_reverse]; omega)]
        rfl
      · refine hz ?_
        by_cases h0 : e.1 = r.place
        · rw [h0]; exact hs
        · have := hr (e.1 - r.place - 1).toNat
          rwa [show r.place + 1 + (((e.1 - r.place - 1).toNat : Nat) : Int) = e.1 by omega] at this
  · have hk := List.mem_range.mp hk
    refine decide_eq_true ?_
    have := hl (cs.length - 1 - k)
    rw [List.getD_eq_getElem?_getD, List.getElem?_reverse (by omega), ← List.getD_eq_getElem?_getD, show cs.length - 1 - (cs.length - 1 - k) = k by omega, show r.place - 1 - ((cs.length - 1 - k : Nat) : Int) = r.place - (cs.length : Int) + (k : Int) by omega] at this
    exact this
/-! ### it goes on for ever -/
theorem zeros_getD (n : Int) : ∀ (xs : List Itm), (∀ i ∈ xs, isZ i = true) → ∀ j, (cO 1 n xs).getD j 0 = 0
  | [], _, j => rfl
  | .s x :: r, h, j => by
    have hx : x = 0 := of_decide_eq_true (h (.s x) List.mem_cons_self)
    have : cO 1 n (.s x :: r) = x :: cO 1 n r := rfl
    rw [this]
    cases j with
    | zero => exact hx
    | succ j => exact zeros_getD n r (fun i hi => h i (List.mem_cons_of_mem _ hi)) j
  | .b w e :: r, h, j => by cases h (.b w e) List.mem_cons_self
theorem den_sy0 (sh : Shp) (n : Int) : den n (sy0 sh) = ⟨sh.st, 0, (tapeOf sh n).reverse, []⟩ := by
  show (⟨sh.st, 0, cO (-1) n (initI sh).reverse, []⟩ : Cfg) = _
  rw [cO_left, cL_stands, List.reverse_reverse, stands_init]
theorem go_on {m : Mach} {B n : Nat} {sh : Shp} (mo : MachOk m B) (sok : ShpOk sh m.length B) (h : hasOn m n sh = true) : ∀ k : Nat, ∃ K : Nat, k ≤ K ∧ Rel (Rn.run m (n + K) rn0) (den (sh.first + (k : Int)) (sy0 sh)) ∧ 0 ≤ (Rn.run m (n + K) rn0).state ∧ RnOk m B (Rn.run m (n + K) rn0) := by
  obtain ⟨h1, h2, h3⟩ := has_rel h
  have ok0 := (run_ok mo n (RnOk.zero mo)).1
  obtain ⟨s2, N2, ok2, hret, hst⟩ := growsGo_steps mo (sy0_ok mo sok) h3
  obtain ⟨q1, q2, q3, q4⟩ := returns_all mo sok ok2 hret
  intro k
  induction k with
  | zero =>
    refine ⟨0, Nat.le_refl _, ?_, ?_, ok0⟩
    · show Rel (Rn.run m n rn0) (den (sh.first + 0) (sy0 sh))
      rw [Int.add_zero, den_sy0]; exact h1
    · show 0 ≤ (Rn.run m n rn0).state
      have := ok0.s0
      omega
  | succ k ih =>
    obtain ⟨K, hK, hrel, hs, hok⟩ := ih
    obtain ⟨j, hj, hsteps⟩ := hst (sh.first + (k : Int)) (by omega)
    obtain ⟨a, b, c⟩ := steps_run mo hsteps hrel hok hs
    rw [← run_add] at a b c
    refine ⟨K + j, by omega, ?_, ?_, ?_⟩
    · rw [← Nat.add_assoc]
      refine ⟨?_, ?_, fun i => ?_, fun i => ?_⟩
      · exact a.st.trans q1
      · exact a.sy.trans q2
      · rw [a.l i]
        show (cO (-1) (sh.first + (k : Int)) s2.left).getD i 0 = (cO (-1) (sh.first + ((k + 1 : Nat) : Int)) (initI sh).reverse).getD i 0
        rw [cO_left, cO_left, q4 k i, show sh.first + ((k + 1 : Nat) : Int) = sh.first + (k : Int) + 1 by omega]
      · rw [a.r i]
        exact zeros_getD _ _ q3 i
    · rw [← Nat.add_assoc]; exact b
    · rw [← Nat.add_assoc]; exact c
theorem never_on {m : Mach} {B n : Nat} {sh : Shp} (mo : MachOk m B) (sok : ShpOk sh m.length B) (h : hasOn m n sh = true) (k : Nat) : (Rn.run m k rn0).state ≠ -1 := fun z => by
  obtain ⟨K, hK, _, hs, _⟩ := go_on mo sok h k
  have : Rn.run m (n + K) rn0 = Rn.run m (n + K - k) (Rn.run m k rn0) := by
    rw [← run_add]
    congr 1; omega
  rw [this, run_halt z, z] at hs
  omega
/-! ### the mirror image -/
theorem mirr_mirr (m : Mach) : mirr (mirr m) = m := by
  unfold mirr
  rw [List.map_map]
  have : ((fun row : List Rule => row.map fun r => (r.1, -r.2.1, r.2.2)) ∘ fun row : List Rule => row.map fun r => (r.1, -r.2.1, r.2.2)) = id := by
    funext row
    show (row.map _).map _ = row
    rw [List.map_map]
    have : ((fun r : Rule => (r.1, -r.2.1, r.2.2)) ∘ fun r : Rule => (r.1, -r.2.1, r.2.2)) = id := by
      funext r
      show (r.1, - -r.2.1, r.2.2) = r
      rw [Int.neg_neg]
    rw [this, List.map_id]
  rw [this, List.map_id]
theorem sided_mirr (m : Mach) (f : Bool) : sidedM (mirr m) (!f) = sidedM m f := by
  cases f with
  | true => rfl
  | false => exact mirr_mirr m
theorem checkGo_flip (f g : Bool) (st : Int) (ws rs : List (List Int)) (fi : Int) (s : Sy) : ∀ (k : Nat) (n : Int), checkGo ⟨f, st, ws, rs, fi⟩ s k n = checkGo ⟨g, st, ws, rs, fi⟩ s k n
  | 0, _ => rfl
  | k + 1, n => by
    show (if standsFor s n = bare (tapeOf ⟨f, st, ws, rs, fi⟩ (n + 1)) then checkGo ⟨f, st, ws, rs, fi⟩ s k (n + 1) else false) = _
    rw [checkGo_flip f g st ws rs fi s k (n + 1)]
    rfl
theorem returnsS_flip (f g : Bool) (st : Int) (ws rs : List (List Int)) (fi : Int) (s : Sy) : returnsS ⟨f, st, ws, rs, fi⟩ s = returnsS ⟨g, st, ws, rs, fi⟩ s := by
  unfold returnsS
  simp only [checkGo_flip f g]
theorem growsGo_flip (m : Mach) (f g : Bool) (st : Int) (ws rs : List (List Int)) (fi : Int) : ∀ (k : Nat) (s : Sy), growsGo m ⟨f, st, ws, rs, fi⟩ k s = growsGo m ⟨g, st, ws, rs, fi⟩ k s
  | 0, _ => rfl
  | k + 1, s => by
    unfold growsGo
    show (match moveS m fi s with
      | none => false
      | some s2 => if returnsS ⟨f, st, ws, rs, fi⟩ s2 = true then true else growsGo m ⟨f, st, ws, rs, fi⟩ k s2) = (match moveS m fi s with
      | none => false
      | some s2 => if returnsS ⟨g, st, ws, rs, fi⟩ s2 = true then true else growsGo m ⟨g, st, ws, rs, fi⟩ k s2)
    cases moveS m fi s with
    | none => rfl
    | some s2 =>
      show (if returnsS ⟨f, st, ws, rs, fi⟩ s2 = true then true else growsGo m ⟨f, st, ws, rs, fi⟩ k s2) = (if returnsS ⟨g, st, ws, rs, fi⟩ s2 = true then true else growsGo m ⟨g, st, ws, rs, fi⟩ k s2)
      rw [returnsS_flip f g, growsGo_flip m f g st ws rs fi k s2]
theorem hasOn_flip (m : Mach) (n : Nat) (f g : Bool) (st : Int) (ws rs : List (List Int)) (fi : Int) : hasOn m n ⟨f, st, ws, rs, fi⟩ = hasOn m n ⟨g, st, ws, rs, fi⟩ := by
  have hg : grows m ⟨f, st, ws, rs, fi⟩ = grows m ⟨g, st, ws, rs, fi⟩ := growsGo_flip m f g st ws rs fi 1000 _
  have ht : ∀ n, tapeOf ⟨f, st, ws, rs, fi⟩ n = tapeOf ⟨g, st, ws, rs, fi⟩ n := fun _ => rfl
  unfold hasOn
  rw [hg]
  rfl
theorem has_mir (m : Mach) (n : Nat) (sh : Shp) : hasShape (mirr m) n ⟨!sh.flip, sh.st, sh.words, sh.reps, sh.first⟩ = hasShape m n sh := by
  rw [hasShape_on, hasShape_on]
  show hasOn (sidedM (mirr m) (!sh.flip)) n ⟨!sh.flip, sh.st, sh.words, sh.reps, sh.first⟩ = _
  rw [sided_mirr]
  exact hasOn_flip _ n _ sh.flip _ _ _ _
end Tac

namespace Tac
/-! ### the sweepers -/
def machB (m : Mach) (B : Nat) : Bool := (decide (1 ≤ m.length) && decide (m.length ≤ 4)) && (decide (2 ≤ B) && decide (B ≤ 4)) && m.all fun row => decide (row.length = B) && row.all fun r => ((decide (0 ≤ r.1) && decide (r.1 < (B : Int))) && (decide (r.2.1 = 1) || decide (r.2.1 = -1))) && (decide (-1 ≤ r.2.2) && decide (r.2.2 < (m.length : Int)))
theorem machB_ok {m : Mach} {B : Nat} (h : machB m B = true) : MachOk m B := by
  unfold machB at h
  simp only [Bool.and_eq_true, Bool.or_eq_true, decide_eq_true_eq, List.all_eq_true] at h
  obtain ⟨⟨⟨a1, a2⟩, a3, a4⟩, a5⟩ := h
  refine ⟨a1, a2, a3, a4, fun row hr => (a5 row hr).1, fun row hr r hx => ?_⟩
  obtain ⟨⟨⟨b1, b2⟩, b3⟩, b4, b5⟩ := (a5 row hr).2 r hx
  exact ⟨b1, b2, b3, b4, b5⟩
/-- cntGo, step by step -/
def cntR (own : Mach) (sh : Shp) : Nat → Rn → Int → Int
  | 0, _, num => num
  | f + 1, r, num => cntR own sh f (r.step own) (if isAt r sh (num + 1) = true then num + 1 else num)
theorem run_last {m : Mach} {a : Nat} (h : (Rn.run m a rn0).state ≠ -1) : Rn.run m (a + 1) rn0 = (Rn.run m a rn0).step m := by
  rw [run_add, run_one h]; rfl
theorem cntGo_R {own : Mach} {sh : Shp} (hn : ∀ k, (Rn.run own k rn0).state ≠ -1) : ∀ (f a : Nat) (num : Int), cntGo own sh f a num = cntR own sh f (Rn.run own a rn0) num
  | 0, a, num => rfl
  | f + 1, a, num => by
    show cntGo own sh f (a + 1) _ = cntR own sh f ((Rn.run own a rn0).step own) _
    rw [cntGo_R hn f (a + 1), run_last (hn a)]
theorem cntGo_ge {own : Mach} {sh : Shp} : ∀ (f a : Nat) (num : Int), num ≤ cntGo own sh f a num
  | 0, a, num => Int.le_refl _
  | f + 1, a, num => by
    have h := cntGo_ge (own := own) (sh := sh) f (a + 1) (if isAt (Rn.run own a rn0) sh (num + 1) = true then num + 1 else num)
    refine Int.le_trans ?_ h
    split <;> omega
theorem cntGo_add {own : Mach} {sh : Shp} : ∀ (f g a : Nat) (num : Int), cntGo own sh f a num ≤ cntGo own sh (f + g) a num
  | 0, g, a, num => cntGo_ge _ _ _
  | f + 1, g, a, num => by
    rw [show f + 1 + g = (f + g) + 1 by omega]
    exact cntGo_add f g (a + 1) _
theorem mirr_mach {m : Mach} {B : Nat} (h : MachOk m B) : MachOk (mirr m) B := by
  have hl : (mirr m).length = m.length := by unfold mirr; rw [List.length_map]
  refine ⟨by rw [hl]; exact h.n1, by rw [hl]; exact h.n4, h.b2, h.b4, fun row hr => ?_, fun row hr r hx => ?_⟩
  · obtain ⟨row0, h0, rfl⟩ := List.mem_map.mp hr
    rw [List.length_map]; exact h.row row0 h0
  · obtain ⟨row0, h0, rfl⟩ := List.mem_map.mp hr
    obtain ⟨r0, hr0, rfl⟩ := List.mem_map.mp hx
    obtain ⟨a, b, c, d, e⟩ := h.rule row0 h0 r0 hr0
    rw [hl]
    refine ⟨a, b, ?_, d, e⟩
    show -r0.2.1 = 1 ∨ -r0.2.1 = -1
    omega
def swOk (s k b : Int) (f : Bool) : Bool :=
  machB (swM s k b f) s.toNat && hasForm (swS k b f) ((swM s k b f).length : Int) s && (decide (sweepGo (swM s k b f) (swS k b f) 8 ≤ 8) && hasShape (swM s k b f) (sweepGo (swM s k b f) (swS k b f) 8) (swS k b f)) &&
    decide (6 < cntR (sidedM (swM s k b f) f) (swS k b f) 200 (Rn.run (sidedM (swM s k b f) f) (sweepGo (swM s k b f) (swS k b f) 8 + 1) rn0) 1)
def swL : List (Int × Int × Int × Bool) := [(2, 1), (3, 1), (3, 2), (4, 1), (4, 2), (4, 3)].flatMap fun (q : Int × Int) => [(q.1, q.2, 0, false), (q.1, q.2, 0, true), (q.1, q.2, 1, false), (q.1, q.2, 1, true)]
theorem sw_all : (swL.all fun q => swOk q.1 q.2.1 q.2.2.1 q.2.2.2) = true := by decide +kernel
theorem sw_mem {s k b : Int} {f : Bool} (hs : 2 ≤ s ∧ s ≤ 4) (hk : 1 ≤ k ∧ k < s) (hb : 0 ≤ b ∧ b ≤ 1) : (s, k, b, f) ∈ swL := by
  have h1 : (s = 2 ∧ k = 1) ∨ (s = 3 ∧ k = 1) ∨ (s = 3 ∧ k = 2) ∨ (s = 4 ∧ k = 1) ∨ (s = 4 ∧ k = 2) ∨ (s = 4 ∧ k = 3) := by omega
  have h2 : b = 0 ∨ b = 1 := by omega
  rcases h1 with ⟨x, y⟩ | ⟨x, y⟩ | ⟨x, y⟩ | ⟨x, y⟩ | ⟨x, y⟩ | ⟨x, y⟩ <;> subst x <;> subst y <;> rcases h2 with z | z <;> subst z <;> cases f <;> decide
theorem facts : LawFacts := by
  refine ⟨fun {m B n sh} mo sok hn h k => ?_, fun {m B n sh} mo sok hn h => ?_, has_mir, fun {s k b f} hs hk hb => ?_⟩
  · rw [hasShape_on] at h
    have mo2 : MachOk (sidedM m sh.flip) B := by
      unfold sidedM; split
      · exact mirr_mach mo
      · exact mo
    have hl : (sidedM m sh.flip).length = m.length := by
      unfold sidedM mirr; split
      · rw [List.length_map]
      · rfl
    exact never_on mo2 (by rw [hl]; exact sok) h k
  · rw [hasShape_on] at h
    exact isAt_of (has_rel h).1
  · have h := List.all_eq_true.mp sw_all _ (sw_mem (f := f) hs hk hb)
    have h : swOk s k b f = true := h
    unfold swOk at h
    simp only [Bool.and_eq_true, decide_eq_true_eq] at h
    obtain ⟨⟨⟨h1, h2⟩, h3, h4⟩, h5⟩ := h
    have mo := machB_ok h1
    have h2 : hasForm (swS k b f) ((swM s k b f).length : Int) ((s.toNat : Nat) : Int) = true := by
      rw [show ((s.toNat : Nat) : Int) = s by omega]; exact h2
    have sok := hasForm_ok h2
    refine ⟨s.toNat, mo, sok, h3, h4, ?_⟩
    have mo2 : MachOk (sidedM (swM s k b f) f) s.toNat := by
      unfold sidedM; split
      · exact mirr_mach mo
      · exact mo
    have hl : (sidedM (swM s k b f) f).length = (swM s k b f).length := by
      unfold sidedM mirr; split
      · rw [List.length_map]
      · rfl
    have h4' := h4
    rw [hasShape_on] at h4'
    have hnev := fun j => never_on mo2 (by rw [hl]; exact sok) h4' j
    generalize sweepGo (swM s k b f) (swS k b f) 8 = n at *
    rw [← cntGo_R hnev] at h5
    have h6 := cntGo_add (own := sidedM (swM s k b f) f) (sh := swS k b f) 200 (400 - n - 200) (n + 1) 1
    rw [show 200 + (400 - n - 200) = 400 - n by omega] at h6
    show cntGo (sidedM (swM s k b f) f) (swS k b f) (400 - n) (n + 1) 1 > 1 + 5
    omega
end Tac

namespace Tac
open PySem PySem.Spec PyProof.Rows L2
theorem all_mk {l : PySem.W.OpenLaw} {w : World} {K : PySem.W.Frag} {h : Heap} {mg : Str → Option Value} {fa CR CS CF f0 f1 f2 f3 f4 f5 f6 f7 f8 f9 f10 f11 f12 f13 f14 f15 f16 f17 f18 f19 f20 f21 f22 f23 f24 f25 f26 f27 f28 f29 f30 f31 f32 f33 f34 f35 f36 f37 f38 f39 f40 f41 f42 f43 : Addr} (X : K.In h) (G : h.Ns mainGlobals mg) (hfa : mg "law" = some (.ref fa))
    {od0 od1 od2 od3 od4 od5 od6 od7 od8 od9 od10 od11 od12 od13 od14 od15 od16 od17 od18 od19 od20 od21 od22 od23 od24 od25 od26 od27 od28 od29 od30 od31 od32 od33 od34 od35 od36 od37 od38 od39 od40 od41 od42 od43 an0 an1 an2 an3 an4 an5 an6 an7 an8 an9 an10 an11 an12 an13 an14 an15 an16 an17 an18 an19 an20 an21 an22 an23 an24 an25 an26 an27 an28 an29 an30 an31 an32 an33 an34 an35 an36 an37 an38 an39 an40 an41 an42 an43 : Option Addr} {sl0 sl1 sl2 sl3 sl4 sl5 sl6 sl7 sl8 sl9 sl10 sl11 sl12 sl13 sl14 sl15 sl16 sl17 sl18 sl19 sl20 sl21 sl22 sl23 sl24 sl25 sl26 sl27 sl28 sl29 sl30 sl31 sl32 sl33 sl34 sl35 sl36 sl37 sl38 sl39 sl40 sl41 sl42 sl43 : Array (Option Value)} {oc0 oc1 oc2 oc3 oc4 oc5 oc6 oc7 oc8 oc9 oc10 oc11 oc12 oc13 oc14 oc15 oc16 oc17 oc18 oc19 oc20 oc21 oc22 oc23 oc24 oc25 oc26 oc27 oc28 oc29 oc30 oc31 oc32 oc33 oc34 oc35 oc36 oc37 oc38 oc39 oc40 oc41 oc42 oc43 kV0 kV1 kV2 kV3 kV4 kV5 kV6 kV7 kV8 kV9 kV10 kV11 kV12 kV13 kV14 kV15 kV16 kV17 kV18 kV19 kV20 kV21 kV22 kV23 kV24 kV25 kV26 kV27 kV28 kV29 kV30 kV31 kV32 kV33 kV34 kV35 kV36 kV37 kV38 kV39 kV40 kV41 kV42 kV43 dc0 dc1 dc2 dc3 dc4 dc5 dc6 dc7 dc8 dc9 dc10 dc11 dc12 dc13 dc14 dc15 dc16 dc17 dc18 dc19 dc20 dc21 dc22 dc23 dc24 dc25 dc26 dc27 dc28 dc29 dc30 dc31 dc32 dc33 dc34 dc35 dc36 dc37 dc38 dc39 dc40 dc41 dc42 dc43 pm0 pm1 pm2 pm3 pm4 pm5 pm6 pm7 pm8 pm9 pm10 pm11 pm12 pm13 pm14 pm15 pm16 pm17 pm18 pm19 pm20 pm21 pm22 pm23 pm24 pm25 pm26 pm27 pm28 pm29 pm30 pm31 pm32 pm33 pm34 pm35 pm36 pm37 pm38 pm39 pm40 pm41 pm42 pm43 cd0 cd1 cd2 cd3 cd4 cd5 cd6 cd7 cd8 cd9 cd10 cd11 cd12 cd13 cd14 cd15 cd16 cd17 cd18 cd19 cd20 cd21 cd22 cd23 cd24 cd25 cd26 cd27 cd28 cd29 cd30 cd31 cd32 cd33 cd34 cd35 cd36 cd37 cd38 cd39 cd40 cd41 cd42 cd43 ct0 ct1 ct2 ct3 ct4 ct5 ct6 ct7 ct8 ct9 ct10 ct11 ct12 ct13 ct14 ct15 ct16 ct17 ct18 ct19 ct20 ct21 ct22 ct23 ct24 ct25 ct26 ct27 ct28 ct29 ct30 ct31 ct32 ct33 ct34 ct35 ct36 ct37 ct38 ct39 ct40 ct41 ct42 ct43 : Value}
    {t_STOP t_MOST_REPEATS t_MOST_WORD t_MOST_FIRST t_MOST_MOVES t_MOST_CROSSING t_MOST_TURNS t_MOST_LENGTH t_MOST_GROWTH : _}
    (aCR : PySem.W.nsIn K mainGlobals "Runner" = some (some (.ref CR)))
    (aCS : PySem.W.nsIn K mainGlobals "Symbolic" = some (some (.ref CS)))
    (aCF : PySem.W.nsIn K mainGlobals "Finder" = some (some (.ref CF)))
    (a0 : PySem.W.nsIn K mainGlobals "mirrored" = some (some (.ref f0)))
    (l0 : K.lookup f0 = some ⟨oc0, od0, .func (PySem.W.fnOf "mirrored" "mirrored" (defArgs sMirr) (defBody sMirr) (defScope sMirr) .none kV0 dc0 pm0 an0 cd0 ct0), sl0⟩)
    (c0 : PySem.W.codeIn K cd0 "mirrored" = true)
    (k0 : PySem.W.keepIn K (.ref f0) = true)
    (a1 : PySem.W.nsIn K mainGlobals "tail" = some (some (.ref f1)))
    (l1 : K.lookup f1 = some ⟨oc1, od1, .func (PySem.W.fnOf "tail" "tail" (defArgs sTail) (defBody sTail) (defScope sTail) .none kV1 dc1 pm1 an1 cd1 ct1), sl1⟩)
    (c1 : PySem.W.codeIn K cd1 "tail" = true)
    (k1 : PySem.W.keepIn K (.ref f1) = true)
    (at1 : PySem.W.nsIn K mainGlobals "tail_runner" = some (some (.ref f1)))
    (a2 : PySem.W.findIn K (.ref CR) "__init__" = some (some (.ref f2)))
    (i2 : PySem.W.isFn K (.ref f2) = true)
    (l2 : K.lookup f2 = some ⟨oc2, od2, .func (PySem.W.fnOf "__init__" "Runner.__init__" (defArgs sRInit) (defBody sRInit) (defScope sRInit) .none kV2 dc2 pm2 an2 cd2 ct2), sl2⟩)
    (c2 : PySem.W.codeIn K cd2 "Runner.__init__" = true)
    (k2 : PySem.W.keepIn K (.ref f2) = true)
    (a3 : PySem.W.findIn K (.ref CR) "symbol" = some (some (.ref f3)))
    (i3 : PySem.W.isFn K (.ref f3) = true)
    (l3 : K.lookup f3 = some ⟨oc3, od3, .func (PySem.W.fnOf "symbol" "Runner.symbol" (defArgs sRSym) (defBody sRSym) (defScope sRSym) .none kV3 dc3 pm3 an3 cd3 ct3), sl3⟩)
    (c3 : PySem.W.codeIn K cd3 "Runner.symbol" = true)
    (k3 : PySem.W.keepIn K (.ref f3) = true)
    (a4 : PySem.W.findIn K (.ref CR) "step" = some (some (.ref f4)))
    (i4 : PySem.W.isFn K (.ref f4) = true)
    (l4 : K.lookup f4 = some ⟨oc4, od4, .func (PySem.W.fnOf "step" "Runner.step" (defArgs sRStep) (defBody sRStep) (defScope sRStep) .none kV4 dc4 pm4 an4 cd4 ct4), sl4⟩)
    (c4 : PySem.W.codeIn K cd4 "Runner.step" = true)
    (k4 : PySem.W.keepIn K (.ref f4) = true)
    (a5 : PySem.W.findIn K (.ref CR) "run" = some (some (.ref f5)))
    (i5 : PySem.W.isFn K (.ref f5) = true)
    (l5 : K.lookup f5 = some ⟨oc5, od5, .func (PySem.W.fnOf "run" "Runner.run" (defArgs sRRun) (defBody sRRun) (defScope sRRun) .none kV5 dc5 pm5 an5 cd5 ct5), sl5⟩)
    (c5 : PySem.W.codeIn K cd5 "Runner.run" = true)
    (k5 : PySem.W.keepIn K (.ref f5) = true)
    (a6 : PySem.W.findIn K (.ref CR) "cells" = some (some (.ref f6)))
    (i6 : PySem.W.isFn K (.ref f6) = true)
    (l6 : K.lookup f6 = some ⟨oc6, od6, .func (PySem.W.fnOf "cells" "Runner.cells" (defArgs sRCells) (defBody sRCells) (defScope sRCells) .none kV6 dc6 pm6 an6 cd6 ct6), sl6⟩)
    (c6 : PySem.W.codeIn K cd6 "Runner.cells" = true)
    (k6 : PySem.W.keepIn K (.ref f6) = true)
    (a7 : PySem.W.findIn K (.ref CR) "tail" = some (some (.ref f7)))
    (i7 : PySem.W.isFn K (.ref f7) = true)
    (l7 : K.lookup f7 = some ⟨oc7, od7, .func (PySem.W.fnOf "tail" "Runner.tail" (defArgs sRTail) (defBody sRTail) (defScope sRTail) .none kV7 dc7 pm7 an7 cd7 ct7), sl7⟩)
    (c7 : PySem.W.codeIn K cd7 "Runner.tail" = true)
    (k7 : PySem.W.keepIn K (.ref f7) = true)
    (a8 : PySem.W.nsIn K mainGlobals "are_words" = some (some (.ref f8)))
    (l8 : K.lookup f8 = some ⟨oc8, od8, .func (PySem.W.fnOf "are_words" "are_words" (defArgs sAreW) (defBody sAreW) (defScope sAreW) .none kV8 dc8 pm8 an8 cd8 ct8), sl8⟩)
    (c8 : PySem.W.codeIn K cd8 "are_words" = true)
    (k8 : PySem.W.keepIn K (.ref f8) = true)
    (a9 : PySem.W.nsIn K mainGlobals "has_shape_form" = some (some (.ref f9)))
    (l9 : K.lookup f9 = some ⟨oc9, od9, .func (PySem.W.fnOf "has_shape_form" "has_shape_form" (defArgs sForm) (defBody sForm) (defScope sForm) .none kV9 dc9 pm9 an9 cd9 ct9), sl9⟩)
    (c9 : PySem.W.codeIn K cd9 "has_shape_form" = true)
    (k9 : PySem.W.keepIn K (.ref f9) = true)
    (a10 : PySem.W.nsIn K mainGlobals "tape_of" = some (some (.ref f10)))
    (l10 : K.lookup f10 = some ⟨oc10, od10, .func (PySem.W.fnOf "tape_of" "tape_of" (defArgs sTape) (defBody sTape) (defScope sTape) .none kV10 dc10 pm10 an10 cd10 ct10), sl10⟩)
    (c10 : PySem.W.codeIn K cd10 "tape_of" = true)
    (k10 : PySem.W.keepIn K (.ref f10) = true)
    (a11 : PySem.W.nsIn K mainGlobals "bare" = some (some (.ref f11)))
    (l11 : K.lookup f11 = some ⟨oc11, od11, .func (PySem.W.fnOf "bare" "bare" (defArgs sBare) (defBody sBare) (defScope sBare) .none kV11 dc11 pm11 an11 cd11 ct11), sl11⟩)
    (c11 : PySem.W.codeIn K cd11 "bare" = true)
    (k11 : PySem.W.keepIn K (.ref f11) = true)
    (a12 : PySem.W.findIn K (.ref CS) "__init__" = some (some (.ref f12)))
    (i12 : PySem.W.isFn K (.ref f12) = true)
    (l12 : K.lookup f12 = some ⟨oc12, od12, .func (PySem.W.fnOf "__init__" "Symbolic.__init__" (defArgs sSInit) (defBody sSInit) (defScope sSInit) .none kV12 dc12 pm12 an12 cd12 ct12), sl12⟩)
    (c12 : PySem.W.codeIn K cd12 "Symbolic.__init__" = true)
    (k12 : PySem.W.keepIn K (.ref f12) = true)
    (a13 : PySem.W.findIn K (.ref CS) "crossed" = some (some (.ref f13)))
    (i13 : PySem.W.isFn K (.ref f13) = true)
    (l13 : K.lookup f13 = some ⟨oc13, od13, .func (PySem.W.fnOf "crossed" "Symbolic.crossed" (defArgs sSCross) (defBody sSCross) (defScope sSCross) .none kV13 dc13 pm13 an13 cd13 ct13), sl13⟩)
    (c13 : PySem.W.codeIn K cd13 "Symbolic.crossed" = true)
    (k13 : PySem.W.keepIn K (.ref f13) = true)
    (a14 : PySem.W.findIn K (.ref CS) "split" = some (some (.ref f14)))
    (i14 : PySem.W.isFn K (.ref f14) = true)
    (l14 : K.lookup f14 = some ⟨oc14, od14, .func (PySem.W.fnOf "split" "Symbolic.split" (defArgs sSSplit) (defBody sSSplit) (defScope sSSplit) .none kV14 dc14 pm14 an14 cd14 ct14), sl14⟩)
    (c14 : PySem.W.codeIn K cd14 "Symbolic.split" = true)
    (k14 : PySem.W.keepIn K (.ref f14) = true)
    (a15 : PySem.W.findIn K (.ref CS) "move" = some (some (.ref f15)))
    (i15 : PySem.W.isFn K (.ref f15) = true)
    (l15 : K.lookup f15 = some ⟨oc15, od15, .func (PySem.W.fnOf "move" "Symbolic.move" (defArgs sSMove) (defBody sSMove) (defScope sSMove) .none kV15 dc15 pm15 an15 cd15 ct15), sl15⟩)
    (c15 : PySem.W.codeIn K cd15 "Symbolic.move" = true)
    (k15 : PySem.W.keepIn K (.ref f15) = true)
    (a16 : PySem.W.findIn K (.ref CS) "stands_for" = some (some (.ref f16)))
    (i16 : PySem.W.isFn K (.ref f16) = true)
    (l16 : K.lookup f16 = some ⟨oc16, od16, .func (PySem.W.fnOf "stands_for" "Symbolic.stands_for" (defArgs sSStand) (defBody sSStand) (defScope sSStand) .none kV16 dc16 pm16 an16 cd16 ct16), sl16⟩)
    (c16 : PySem.W.codeIn K cd16 "Symbolic.stands_for" = true)
    (k16 : PySem.W.keepIn K (.ref f16) = true)
    (a17 : PySem.W.findIn K (.ref CS) "returns" = some (some (.ref f17)))
    (i17 : PySem.W.isFn K (.ref f17) = true)
    (l17 : K.lookup f17 = some ⟨oc17, od17, .func (PySem.W.fnOf "returns" "Symbolic.returns" (defArgs sSRet) (defBody sSRet) (defScope sSRet) .none kV17 dc17 pm17 an17 cd17 ct17), sl17⟩)
    (c17 : PySem.W.codeIn K cd17 "Symbolic.returns" = true)
    (k17 : PySem.W.keepIn K (.ref f17) = true)
    (a18 : PySem.W.nsIn K mainGlobals "sided" = some (some (.ref f18)))
    (l18 : K.lookup f18 = some ⟨oc18, od18, .func (PySem.W.fnOf "sided" "sided" (defArgs sSided) (defBody sSided) (defScope sSided) .none kV18 dc18 pm18 an18 cd18 ct18), sl18⟩)
    (c18 : PySem.W.codeIn K cd18 "sided" = true)
    (k18 : PySem.W.keepIn K (.ref f18) = true)
    (a19 : PySem.W.nsIn K mainGlobals "grows" = some (some (.ref f19)))
    (l19 : K.lookup f19 = some ⟨oc19, od19, .func (PySem.W.fnOf "grows" "grows" (defArgs sGrows) (defBody sGrows) (defScope sGrows) .none kV19 dc19 pm19 an19 cd19 ct19), sl19⟩)
    (c19 : PySem.W.codeIn K cd19 "grows" = true)
    (k19 : PySem.W.keepIn K (.ref f19) = true)
    (a20 : PySem.W.nsIn K mainGlobals "has_shape" = some (some (.ref f20)))
    (l20 : K.lookup f20 = some ⟨oc20, od20, .func (PySem.W.fnOf "has_shape" "has_shape" (defArgs sHas) (defBody sHas) (defScope sHas) .none kV20 dc20 pm20 an20 cd20 ct20), sl20⟩)
    (c20 : PySem.W.codeIn K cd20 "has_shape" = true)
    (k20 : PySem.W.keepIn K (.ref f20) = true)
    (a21 : PySem.W.nsIn K mainGlobals "turns" = some (some (.ref f21)))
    (l21 : K.lookup f21 = some ⟨oc21, od21, .func (PySem.W.fnOf "turns" "turns" (defArgs sTurns) (defBody sTurns) (defScope sTurns) .none kV21 dc21 pm21 an21 cd21 ct21), sl21⟩)
    (c21 : PySem.W.codeIn K cd21 "turns" = true)
    (k21 : PySem.W.keepIn K (.ref f21) = true)
    (a22 : PySem.W.nsIn K mainGlobals "shared" = some (some (.ref f22)))
    (l22 : K.lookup f22 = some ⟨oc22, od22, .func (PySem.W.fnOf "shared" "shared" (defArgs sShared) (defBody sShared) (defScope sShared) .none kV22 dc22 pm22 an22 cd22 ct22), sl22⟩)
    (c22 : PySem.W.codeIn K cd22 "shared" = true)
    (k22 : PySem.W.keepIn K (.ref f22) = true)
    (a23 : PySem.W.nsIn K mainGlobals "pulled" = some (some (.ref f23)))
    (l23 : K.lookup f23 = some ⟨oc23, od23, .func (PySem.W.fnOf "pulled" "pulled" (defArgs sPulled) (defBody sPulled) (defScope sPulled) .none kV23 dc23 pm23 an23 cd23 ct23), sl23⟩)
    (c23 : PySem.W.codeIn K cd23 "pulled" = true)
    (k23 : PySem.W.keepIn K (.ref f23) = true)
    (a24 : PySem.W.findIn K (.ref CF) "__init__" = some (some (.ref f24)))
    (i24 : PySem.W.isFn K (.ref f24) = true)
    (l24 : K.lookup f24 = some ⟨oc24, od24, .func (PySem.W.fnOf "__init__" "Finder.__init__" (defArgs sFInit) (defBody sFInit) (defScope sFInit) .none kV24 dc24 pm24 an24 cd24 ct24), sl24⟩)
    (c24 : PySem.W.codeIn K cd24 "Finder.__init__" = true)
    (k24 : PySem.W.keepIn K (.ref f24) = true)
    (a25 : PySem.W.findIn K (.ref CF) "attempt" = some (some (.ref f25)))
    (i25 : PySem.W.isFn K (.ref f25) = true)
    (l25 : K.lookup f25 = some ⟨oc25, od25, .func (PySem.W.fnOf "attempt" "Finder.attempt" (defArgs sFAtt) (defBody sFAtt) (defScope sFAtt) .none kV25 dc25 pm25 an25 cd25 ct25), sl25⟩)
    (c25 : PySem.W.codeIn K cd25 "Finder.attempt" = true)
    (k25 : PySem.W.keepIn K (.ref f25) = true)
    (a26 : PySem.W.findIn K (.ref CF) "one_repeat" = some (some (.ref f26)))
    (i26 : PySem.W.isFn K (.ref f26) = true)
    (l26 : K.lookup f26 = some ⟨oc26, od26, .func (PySem.W.fnOf "one_repeat" "Finder.one_repeat" (defArgs sFOne) (defBody sFOne) (defScope sFOne) .none kV26 dc26 pm26 an26 cd26 ct26), sl26⟩)
    (c26 : PySem.W.codeIn K cd26 "Finder.one_repeat" = true)
    (k26 : PySem.W.keepIn K (.ref f26) = true)
    (a27 : PySem.W.findIn K (.ref CF) "second_repeat" = some (some (.ref f27)))
    (i27 : PySem.W.isFn K (.ref f27) = true)
    (l27 : K.lookup f27 = some ⟨oc27, od27, .func (PySem.W.fnOf "second_repeat" "Finder.second_repeat" (defArgs sFSec) (defBody sFSec) (defScope sFSec) .none kV27 dc27 pm27 an27 cd27 ct27), sl27⟩)
    (c27 : PySem.W.codeIn K cd27 "Finder.second_repeat" = true)
    (k27 : PySem.W.keepIn K (.ref f27) = true)
    (a28 : PySem.W.findIn K (.ref CF) "two_repeats" = some (some (.ref f28)))
    (i28 : PySem.W.isFn K (.ref f28) = true)
    (l28 : K.lookup f28 = some ⟨oc28, od28, .func (PySem.W.fnOf "two_repeats" "Finder.two_repeats" (defArgs sFTwo) (defBody sFTwo) (defScope sFTwo) .none kV28 dc28 pm28 an28 cd28 ct28), sl28⟩)
    (c28 : PySem.W.codeIn K cd28 "Finder.two_repeats" = true)
    (k28 : PySem.W.keepIn K (.ref f28) = true)
    (a29 : PySem.W.findIn K (.ref CF) "grow" = some (some (.ref f29)))
    (i29 : PySem.W.isFn K (.ref f29) = true)
    (l29 : K.lookup f29 = some ⟨oc29, od29, .func (PySem.W.fnOf "grow" "Finder.grow" (defArgs sFGrow) (defBody sFGrow) (defScope sFGrow) .none kV29 dc29 pm29 an29 cd29 ct29), sl29⟩)
    (c29 : PySem.W.codeIn K cd29 "Finder.grow" = true)
    (k29 : PySem.W.keepIn K (.ref f29) = true)
    (a30 : PySem.W.findIn K (.ref CF) "look" = some (some (.ref f30)))
    (i30 : PySem.W.isFn K (.ref f30) = true)
    (l30 : K.lookup f30 = some ⟨oc30, od30, .func (PySem.W.fnOf "look" "Finder.look" (defArgs sFLook) (defBody sFLook) (defScope sFLook) .none kV30 dc30 pm30 an30 cd30 ct30), sl30⟩)
    (c30 : PySem.W.codeIn K cd30 "Finder.look" = true)
    (k30 : PySem.W.keepIn K (.ref f30) = true)
    (a31 : PySem.W.nsIn K mainGlobals "find_shape" = some (some (.ref f31)))
    (l31 : K.lookup f31 = some ⟨oc31, od31, .func (PySem.W.fnOf "find_shape" "find_shape" (defArgs sFind) (defBody sFind) (defScope sFind) .none kV31 dc31 pm31 an31 cd31 ct31), sl31⟩)
    (c31 : PySem.W.codeIn K cd31 "find_shape" = true)
    (k31 : PySem.W.keepIn K (.ref f31) = true)
    (a32 : PySem.W.nsIn K mainGlobals "_law_stream" = some (some (.ref f32)))
    (l32 : K.lookup f32 = some ⟨oc32, od32, .func (PySem.W.fnOf "_law_stream" "_law_stream" (defArgs sLStream) (defBody sLStream) (defScope sLStream) .none kV32 dc32 pm32 an32 cd32 ct32), sl32⟩)
    (c32 : PySem.W.codeIn K cd32 "_law_stream" = true)
    (k32 : PySem.W.keepIn K (.ref f32) = true)
    (a33 : PySem.W.nsIn K mainGlobals "_law_draw" = some (some (.ref f33)))
    (l33 : K.lookup f33 = some ⟨oc33, od33, .func (PySem.W.fnOf "_law_draw" "_law_draw" (defArgs sLDraw) (defBody sLDraw) (defScope sLDraw) .none kV33 dc33 pm33 an33 cd33 ct33), sl33⟩)
    (c33 : PySem.W.codeIn K cd33 "_law_draw" = true)
    (k33 : PySem.W.keepIn K (.ref f33) = true)
    (a34 : PySem.W.nsIn K mainGlobals "_law_needed" = some (some (.ref f34)))
    (l34 : K.lookup f34 = some ⟨oc34, od34, .func (PySem.W.fnOf "_law_needed" "_law_needed" (defArgs sLNeed) (defBody sLNeed) (defScope sLNeed) .none kV34 dc34 pm34 an34 cd34 ct34), sl34⟩)
    (c34 : PySem.W.codeIn K cd34 "_law_needed" = true)
    (k34 : PySem.W.keepIn K (.ref f34) = true)
    (a35 : PySem.W.nsIn K mainGlobals "_law_grown_machine" = some (some (.ref f35)))
    (l35 : K.lookup f35 = some ⟨oc35, od35, .func (PySem.W.fnOf "_law_grown_machine" "_law_grown_machine" (defArgs sLGrown) (defBody sLGrown) (defScope sLGrown) .none kV35 dc35 pm35 an35 cd35 ct35), sl35⟩)
    (c35 : PySem.W.codeIn K cd35 "_law_grown_machine" = true)
    (k35 : PySem.W.keepIn K (.ref f35) = true)
    (a36 : PySem.W.nsIn K mainGlobals "_law_machine" = some (some (.ref f36)))
    (l36 : K.lookup f36 = some ⟨oc36, od36, .func (PySem.W.fnOf "_law_machine" "_law_machine" (defArgs sLMach) (defBody sLMach) (defScope sLMach) .none kV36 dc36 pm36 an36 cd36 ct36), sl36⟩)
    (c36 : PySem.W.codeIn K cd36 "_law_machine" = true)
    (k36 : PySem.W.keepIn K (.ref f36) = true)
    (a37 : PySem.W.nsIn K mainGlobals "_law_mirrored" = some (some (.ref f37)))
    (l37 : K.lookup f37 = some ⟨oc37, od37, .func (PySem.W.fnOf "_law_mirrored" "_law_mirrored" (defArgs sLMirr) (defBody sLMirr) (defScope sLMirr) .none kV37 dc37 pm37 an37 cd37 ct37), sl37⟩)
    (c37 : PySem.W.codeIn K cd37 "_law_mirrored" = true)
    (k37 : PySem.W.keepIn K (.ref f37) = true)
    (a38 : PySem.W.nsIn K mainGlobals "_law_after" = some (some (.ref f38)))
    (l38 : K.lookup f38 = some ⟨oc38, od38, .func (PySem.W.fnOf "_law_after" "_law_after" (defArgs sLAfter) (defBody sLAfter) (defScope sLAfter) .none kV38 dc38 pm38 an38 cd38 ct38), sl38⟩)
    (c38 : PySem.W.codeIn K cd38 "_law_after" = true)
    (k38 : PySem.W.keepIn K (.ref f38) = true)
    (a39 : PySem.W.nsIn K mainGlobals "_law_history" = some (some (.ref f39)))
    (l39 : K.lookup f39 = some ⟨oc39, od39, .func (PySem.W.fnOf "_law_history" "_law_history" (defArgs sLHist) (defBody sLHist) (defScope sLHist) .none kV39 dc39 pm39 an39 cd39 ct39), sl39⟩)
    (c39 : PySem.W.codeIn K cd39 "_law_history" = true)
    (k39 : PySem.W.keepIn K (.ref f39) = true)
    (a40 : PySem.W.nsIn K mainGlobals "_law_tape" = some (some (.ref f40)))
    (l40 : K.lookup f40 = some ⟨oc40, od40, .func (PySem.W.fnOf "_law_tape" "_law_tape" (defArgs sLTape) (defBody sLTape) (defScope sLTape) .none kV40 dc40 pm40 an40 cd40 ct40), sl40⟩)
    (c40 : PySem.W.codeIn K cd40 "_law_tape" = true)
    (k40 : PySem.W.keepIn K (.ref f40) = true)
    (a41 : PySem.W.nsIn K mainGlobals "_law_is_at" = some (some (.ref f41)))
    (l41 : K.lookup f41 = some ⟨oc41, od41, .func (PySem.W.fnOf "_law_is_at" "_law_is_at" (defArgs sLIsAt) (defBody sLIsAt) (defScope sLIsAt) .none kV41 dc41 pm41 an41 cd41 ct41), sl41⟩)
    (c41 : PySem.W.codeIn K cd41 "_law_is_at" = true)
    (k41 : PySem.W.keepIn K (.ref f41) = true)
    (a42 : PySem.W.nsIn K mainGlobals "_law_sweeper" = some (some (.ref f42)))
    (l42 : K.lookup f42 = some ⟨oc42, od42, .func (PySem.W.fnOf "_law_sweeper" "_law_sweeper" (defArgs sLSweep) (defBody sLSweep) (defScope sLSweep) .none kV42 dc42 pm42 an42 cd42 ct42), sl42⟩)
    (c42 : PySem.W.codeIn K cd42 "_law_sweeper" = true)
    (k42 : PySem.W.keepIn K (.ref f42) = true)
    (a43 : PySem.W.nsIn K mainGlobals "law" = some (some (.ref f43)))
    (l43 : K.lookup f43 = some ⟨oc43, od43, .func (PySem.W.fnOf "law" "law" (defArgs sLaw) (defBody sLaw) (defScope sLaw) .none kV43 dc43 pm43 an43 cd43 ct43), sl43⟩)
    (c43 : PySem.W.codeIn K cd43 "law" = true)
    (k43 : PySem.W.keepIn K (.ref f43) = true)
    (pgCR : PySem.W.plainGet K CR Str.empty = true)
    (hdCR : PySem.W.hasDictIn K CR = true)
    (poCR : PySem.W.plainOver K CR = true)
    (saCR : PySem.W.findIn K (.ref CR) "__setattr__" = some (some (.builtin "object.__setattr__")))
    (mkCR : PySem.W.makesIn K CR = true)
    (kcCR : PySem.W.keepIn K (.ref CR) = true)
    (nCR_machine : PySem.W.findIn K (.ref CR) "machine" = some none)
    (nCR_tape : PySem.W.findIn K (.ref CR) "tape" = some none)
    (nCR_place : PySem.W.findIn K (.ref CR) "place" = some none)
    (nCR_state : PySem.W.findIn K (.ref CR) "state" = some none)
    (nCR_steps : PySem.W.findIn K (.ref CR) "steps" = some none)
    (pgCS : PySem.W.plainGet K CS Str.empty = true)
    (hdCS : PySem.W.hasDictIn K CS = true)
    (poCS : PySem.W.plainOver K CS = true)
    (saCS : PySem.W.findIn K (.ref CS) "__setattr__" = some (some (.builtin "object.__setattr__")))
    (mkCS : PySem.W.makesIn K CS = true)
    (kcCS : PySem.W.keepIn K (.ref CS) = true)
    (nCS_machine : PySem.W.findIn K (.ref CS) "machine" = some none)
    (nCS_first : PySem.W.findIn K (.ref CS) "first" = some none)
    (nCS_state : PySem.W.findIn K (.ref CS) "state" = some none)
    (nCS_symbol : PySem.W.findIn K (.ref CS) "symbol" = some none)
    (nCS_left : PySem.W.findIn K (.ref CS) "left" = some none)
    (nCS_right : PySem.W.findIn K (.ref CS) "right" = some none)
    (pgCF : PySem.W.plainGet K CF Str.empty = true)
    (hdCF : PySem.W.hasDictIn K CF = true)
    (poCF : PySem.W.plainOver K CF = true)
    (saCF : PySem.W.findIn K (.ref CF) "__setattr__" = some (some (.builtin "object.__setattr__")))
    (mkCF : PySem.W.makesIn K CF = true)
    (kcCF : PySem.W.keepIn K (.ref CF) = true)
    (nCF_machine : PySem.W.findIn K (.ref CF) "machine" = some none)
    (nCF_flipped : PySem.W.findIn K (.ref CF) "flipped" = some none)
    (nCF_tried : PySem.W.findIn K (.ref CF) "tried" = some none)
    (z_len : PySem.W.nsIn K mainGlobals "len" = some none)
    (z_range : PySem.W.nsIn K mainGlobals "range" = some none)
    (z_tuple : PySem.W.nsIn K mainGlobals "tuple" = some none)
    (z_list : PySem.W.nsIn K mainGlobals "list" = some none)
    (z_dict : PySem.W.nsIn K mainGlobals "dict" = some none)
    (z_enumerate : PySem.W.nsIn K mainGlobals "enumerate" = some none)
    (z_isinstance : PySem.W.nsIn K mainGlobals "isinstance" = some none)
    (z_sorted : PySem.W.nsIn K mainGlobals "sorted" = some none)
    (z_any : PySem.W.nsIn K mainGlobals "any" = some none)
    (z_max : PySem.W.nsIn K mainGlobals "max" = some none)
    (z_min : PySem.W.nsIn K mainGlobals "min" = some none)
    (z_abs : PySem.W.nsIn K mainGlobals "abs" = some none)
    (z_int : PySem.W.nsIn K mainGlobals "int" = some none)
    (z_bool : PySem.W.nsIn K mainGlobals "bool" = some none)
    (z_STOP : PySem.W.nsIn K mainGlobals "STOP" = some (some (.int (-1) t_STOP)))
    (z_MOST_REPEATS : PySem.W.nsIn K mainGlobals "MOST_REPEATS" = some (some (.int (2) t_MOST_REPEATS)))
    (z_MOST_WORD : PySem.W.nsIn K mainGlobals "MOST_WORD" = some (some (.int (24) t_MOST_WORD)))
    (z_MOST_FIRST : PySem.W.nsIn K mainGlobals "MOST_FIRST" = some (some (.int (20) t_MOST_FIRST)))
    (z_MOST_MOVES : PySem.W.nsIn K mainGlobals "MOST_MOVES" = some (some (.int (1000) t_MOST_MOVES)))
    (z_MOST_CROSSING : PySem.W.nsIn K mainGlobals "MOST_CROSSING" = some (some (.int (500) t_MOST_CROSSING)))
    (z_MOST_TURNS : PySem.W.nsIn K mainGlobals "MOST_TURNS" = some (some (.int (30) t_MOST_TURNS)))
    (z_MOST_LENGTH : PySem.W.nsIn K mainGlobals "MOST_LENGTH" = some (some (.int (40) t_MOST_LENGTH)))
    (z_MOST_GROWTH : PySem.W.nsIn K mainGlobals "MOST_GROWTH" = some (some (.int (12) t_MOST_GROWTH)))
    : ∃ fd : FuncData, (∀ (s : Shared) (v : Value), BindsTo s fd ⟨[v], []⟩ [("_law_script", v)]) ∧ ∀ base : Heap, K.In base → base.Ns mainGlobals mg → FnOk l.prog w K mg base CX0 11 fa fd ["_law_script"] (spLaw K) := by
  have e := hfa.symm.trans (PySem.W.mg_of X G a43)
  cases e
  have T : Tx K mg CR CS CF := ⟨PySem.W.mg_none_of X G z_len, PySem.W.mg_none_of X G z_range, PySem.W.mg_none_of X G z_tuple, PySem.W.mg_none_of X G z_list, PySem.W.mg_none_of X G z_dict, PySem.W.mg_none_of X G z_enumerate, PySem.W.mg_none_of X G z_isinstance, PySem.W.mg_none_of X G z_sorted, PySem.W.mg_none_of X G z_any, PySem.W.mg_none_of X G z_max, PySem.W.mg_none_of X G z_min, PySem.W.mg_none_of X G z_abs, PySem.W.mg_none_of X G z_int, PySem.W.mg_none_of X G z_bool, ⟨_, PySem.W.mg_of X G z_STOP⟩, ⟨_, PySem.W.mg_of X G z_MOST_REPEATS⟩, ⟨_, PySem.W.mg_of X G z_MOST_WORD⟩, ⟨_, PySem.W.mg_of X G z_MOST_FIRST⟩, ⟨_, PySem.W.mg_of X G z_MOST_MOVES⟩, ⟨_, PySem.W.mg_of X G z_MOST_CROSSING⟩, ⟨_, PySem.W.mg_of X G z_MOST_TURNS⟩, ⟨_, PySem.W.mg_of X G z_MOST_LENGTH⟩, ⟨_, PySem.W.mg_of X G z_MOST_GROWTH⟩, ⟨pgCR, hdCR, poCR, saCR⟩, ⟨pgCS, hdCS, poCS, saCS⟩, ⟨pgCF, hdCF, poCF, saCF⟩, nCR_machine, nCR_tape, nCR_place, nCR_state, nCR_steps, nCS_machine, nCS_first, nCS_state, nCS_symbol, nCS_left, nCS_right, nCF_machine, nCF_flipped, nCF_tried⟩
  have F0 := fun_mk (st := sMirr) l0 c0 k0
  have b0 := F0.binds (ps := ["machine"]) fun _ _ _ _ _ _ us hl => match us, hl with | [_], _ => rfl
  have F1 := fun_mk (st := sTail) l1 c1 k1
  have b1 := F1.binds (ps := ["row", "start"]) fun _ _ _ _ _ _ us hl => match us, hl with | [_, _], _ => rfl
  have F2 := fun_mk (st := sRInit) l2 c2 k2
  have b2 := F2.binds (ps := ["self", "machine"]) fun _ _ _ _ _ _ us hl => match us, hl with | [_, _], _ => rfl
  have F3 := fun_mk (st := sRSym) l3 c3 k3
  have b3 := F3.binds (ps := ["self"]) fun _ _ _ _ _ _ us hl => match us, hl with | [_], _ => rfl
  have F4 := fun_mk (st := sRStep) l4 c4 k4
  have b4 := F4.binds (ps := ["self"]) fun _ _ _ _ _ _ us hl => match us, hl with | [_], _ => rfl
  have F5 := fun_mk (st := sRRun) l5 c5 k5
  have b5 := F5.binds (ps := ["self", "count"]) fun _ _ _ _ _ _ us hl => match us, hl with | [_, _], _ => rfl
  have F6 := fun_mk (st := sRCells) l6 c6 k6
  have b6 := F6.binds (ps := ["self"]) fun _ _ _ _ _ _ us hl => match us, hl with | [_], _ => rfl
  have F7 := fun_mk (st := sRTail) l7 c7 k7
  have b7 := F7.binds (ps := ["self", "start"]) fun _ _ _ _ _ _ us hl => match us, hl with | [_, _], _ => rfl
  have F8 := fun_mk (st := sAreW) l8 c8 k8
  have b8 := F8.binds (ps := ["value", "symbols", "least"]) fun _ _ _ _ _ _ us hl => match us, hl with | [_, _, _], _ => rfl
  have F9 := fun_mk (st := sForm) l9 c9 k9
  have b9 := F9.binds (ps := ["value", "states", "symbols"]) fun _ _ _ _ _ _ us hl => match us, hl with | [_, _, _], _ => rfl
  have F10 := fun_mk (st := sTape) l10 c10 k10
  have b10 := F10.binds (ps := ["shape", "number"]) fun _ _ _ _ _ _ us hl => match us, hl with | [_, _], _ => rfl
  have F11 := fun_mk (st := sBare) l11 c11 k11
  have b11 := F11.binds (ps := ["word"]) fun _ _ _ _ _ _ us hl => match us, hl with | [_], _ => rfl
  have F12 := fun_mk (st := sSInit) l12 c12 k12
  have b12 := F12.binds (ps := ["self", "machine", "shape"]) fun _ _ _ _ _ _ us hl => match us, hl with | [_, _, _], _ => rfl
  have F13 := fun_mk (st := sSCross) l13 c13 k13
  have b13 := F13.binds (ps := ["self", "word", "move"]) fun _ _ _ _ _ _ us hl => match us, hl with | [_, _, _], _ => rfl
  have F14 := fun_mk (st := sSSplit) l14 c14 k14
  have b14 := F14.binds (ps := ["self", "ahead", "move"]) fun _ _ _ _ _ _ us hl => match us, hl with | [_, _, _], _ => rfl
  have F15 := fun_mk (st := sSMove) l15 c15 k15
  have b15 := F15.binds (ps := ["self"]) fun _ _ _ _ _ _ us hl => match us, hl with | [_], _ => rfl
  have F16 := fun_mk (st := sSStand) l16 c16 k16
  have b16 := F16.binds (ps := ["self", "number"]) fun _ _ _ _ _ _ us hl => match us, hl with | [_, _], _ => rfl
  have F17 := fun_mk (st := sSRet) l17 c17 k17
  have b17 := F17.binds (ps := ["self", "shape"]) fun _ _ _ _ _ _ us hl => match us, hl with | [_, _], _ => rfl
  have F18 := fun_mk (st := sSided) l18 c18 k18
  have b18 := F18.binds (ps := ["machine", "flipped"]) fun _ _ _ _ _ _ us hl => match us, hl with | [_, _], _ => rfl
  have F19 := fun_mk (st := sGrows) l19 c19 k19
  have b19 := F19.binds (ps := ["machine", "shape"]) fun _ _ _ _ _ _ us hl => match us, hl with | [_, _], _ => rfl
  have F20 := fun_mk (st := sHas) l20 c20 k20
  have b20 := F20.binds (ps := ["machine", "start", "shape"]) fun _ _ _ _ _ _ us hl => match us, hl with | [_, _, _], _ => rfl
  have F21 := fun_mk (st := sTurns) l21 c21 k21
  have b21 := F21.binds (ps := ["machine", "count"]) fun _ _ _ _ _ _ us hl => match us, hl with | [_, _], _ => rfl
  have F22 := fun_mk (st := sShared) l22 c22 k22
  have b22 := F22.binds (ps := ["one", "two"]) fun _ _ _ _ _ _ us hl => match us, hl with | [_, _], _ => rfl
  have F23 := fun_mk (st := sPulled) l23 c23 k23
  have b23 := F23.binds (ps := ["before", "behind", "repeat"]) fun _ _ _ _ _ _ us hl => match us, hl with | [_, _, _], _ => rfl
  have F24 := fun_mk (st := sFInit) l24 c24 k24
  have b24 := F24.binds (ps := ["self", "machine", "flipped"]) fun _ _ _ _ _ _ us hl => match us, hl with | [_, _, _], _ => rfl
  have F25 := fun_mk (st := sFAtt) l25 c25 k25
  have b25 := F25.binds (ps := ["self", "turn", "first", "words", "repeats"]) fun _ _ _ _ _ _ us hl => match us, hl with | [_, _, _, _, _], _ => rfl
  have F26 := fun_mk (st := sFOne) l26 c26 k26
  have b26 := F26.binds (ps := ["self", "early", "late"]) fun _ _ _ _ _ _ us hl => match us, hl with | [_, _, _], _ => rfl
  have F27 := fun_mk (st := sFSec) l27 c27 k27
  have b27 := F27.binds (ps := ["self", "early", "middle", "late", "sizes"]) fun _ _ _ _ _ _ us hl => match us, hl with | [_, _, _, _, _], _ => rfl
  have F28 := fun_mk (st := sFTwo) l28 c28 k28
  have b28 := F28.binds (ps := ["self", "early", "middle", "late"]) fun _ _ _ _ _ _ us hl => match us, hl with | [_, _, _, _], _ => rfl
  have F29 := fun_mk (st := sFGrow) l29 c29 k29
  have b29 := F29.binds (ps := ["self", "rows"]) fun _ _ _ _ _ _ us hl => match us, hl with | [_, _], _ => rfl
  have F30 := fun_mk (st := sFLook) l30 c30 k30
  have b30 := F30.binds (ps := ["self", "count"]) fun _ _ _ _ _ _ us hl => match us, hl with | [_, _], _ => rfl
  have F31 := fun_mk (st := sFind) l31 c31 k31
  have b31 := F31.binds (ps := ["machine", "count"]) fun _ _ _ _ _ _ us hl => match us, hl with | [_, _], _ => rfl
  have F32 := fun_mk (st := sLStream) l32 c32 k32
  have b32 := F32.binds (ps := ["_law_script"]) fun _ _ _ _ _ _ us hl => match us, hl with | [_], _ => rfl
  have F33 := fun_mk (st := sLDraw) l33 c33 k33
  have b33 := F33.binds (ps := ["_law_stream_here", "_law_many"]) fun _ _ _ _ _ _ us hl => match us, hl with | [_, _], _ => rfl
  have F34 := fun_mk (st := sLNeed) l34 c34 k34
  have b34 := F34.binds (ps := ["_law_rows", "_law_steps"]) fun _ _ _ _ _ _ us hl => match us, hl with | [_, _], _ => rfl
  have F35 := fun_mk (st := sLGrown) l35 c35 k35
  have b35 := F35.binds (ps := ["_law_stream_here"]) fun _ _ _ _ _ _ us hl => match us, hl with | [_], _ => rfl
  have F36 := fun_mk (st := sLMach) l36 c36 k36
  have b36 := F36.binds (ps := ["_law_stream_here"]) fun _ _ _ _ _ _ us hl => match us, hl with | [_], _ => rfl
  have F37 := fun_mk (st := sLMirr) l37 c37 k37
  have b37 := F37.binds (ps := ["_law_machine_here"]) fun _ _ _ _ _ _ us hl => match us, hl with | [_], _ => rfl
  have F38 := fun_mk (st := sLAfter) l38 c38 k38
  have b38 := F38.binds (ps := ["_law_machine_here", "_law_now"]) fun _ _ _ _ _ _ us hl => match us, hl with | [_, _], _ => rfl
  have F39 := fun_mk (st := sLHist) l39 c39 k39
  have b39 := F39.binds (ps := ["_law_machine_here", "_law_count"]) fun _ _ _ _ _ _ us hl => match us, hl with | [_, _], _ => rfl
  have F40 := fun_mk (st := sLTape) l40 c40 k40
  have b40 := F40.binds (ps := ["_law_shape", "_law_number"]) fun _ _ _ _ _ _ us hl => match us, hl with | [_, _], _ => rfl
  have F41 := fun_mk (st := sLIsAt) l41 c41 k41
  have b41 := F41.binds (ps := ["_law_now", "_law_shape", "_law_number"]) fun _ _ _ _ _ _ us hl => match us, hl with | [_, _, _], _ => rfl
  have F42 := fun_mk (st := sLSweep) l42 c42 k42
  have b42 := F42.binds (ps := ["_law_stream_here"]) fun _ _ _ _ _ _ us hl => match us, hl with | [_], _ => rfl
  have F43 := fun_mk (st := sLaw) l43 c43 k43
  refine ⟨PySem.W.fnOf "law" "law" (defArgs sLaw) (defBody sLaw) (defScope sLaw) .none kV43 dc43 pm43 an43 cd43 ct43, fun s v => .of_eq rfl, fun base _ _ => ?_⟩
  have o0 := ok_mirr (P := l.prog) (w := w) (base := base) F0 T 
  have c_mirrored : Cal l.prog w K mg base "mirrored" 1 ["machine"] _ := ⟨_, _, o0, PySem.W.mg_of X G a0, k0, b0⟩
  have o1 := ok_tail (P := l.prog) (w := w) (base := base) F1 T 
  have c_tail_runner : Cal l.prog w K mg base "tail_runner" 1 ["row", "start"] _ := ⟨_, _, o1, PySem.W.mg_of X G at1, k1, b1⟩
  have o2 := ok_rinit (P := l.prog) (w := w) (base := base) F2 T 
  have c_Runner : CCal l.prog w K mg base "Runner" CR 1 ["self", "machine"] _ := ⟨_, _, o2, ⟨mkCR, a2, i2, kcCR⟩, PySem.W.mg_of X G aCR, b2⟩
  have o3 := ok_rsym (P := l.prog) (w := w) (base := base) F3 T 
  have c_Runner_symbol : MCal l.prog w K mg base CR "symbol" 1 ["self"] _ := ⟨_, _, o3, ⟨a3, i3, k3⟩, b3⟩
  have o4 := ok_rstep (P := l.prog) (w := w) (base := base) F4 T c_Runner_symbol
  have c_Runner_step : MCal l.prog w K mg base CR "step" 2 ["self"] _ := ⟨_, _, o4, ⟨a4, i4, k4⟩, b4⟩
  have o5 := ok_rrun (P := l.prog) (w := w) (base := base) F5 T c_Runner_step
  have c_Runner_run : MCal l.prog w K mg base CR "run" 3 ["self", "count"] _ := ⟨_, _, o5, ⟨a5, i5, k5⟩, b5⟩
  have o6 := ok_rcells (P := l.prog) (w := w) (base := base) F6 T 
  have c_Runner_cells : MCal l.prog w K mg base CR "cells" 1 ["self"] _ := ⟨_, _, o6, ⟨a6, i6, k6⟩, b6⟩
  have o7 := ok_rtail (P := l.prog) (w := w) (base := base) F7 T c_Runner_cells c_tail_runner
  have c_Runner_tail : MCal l.prog w K mg base CR "tail" 2 ["self", "start"] _ := ⟨_, _, o7, ⟨a7, i7, k7⟩, b7⟩
  have o8 := ok_arew (P := l.prog) (w := w) (base := base) F8 T 
  have c_are_words : Cal l.prog w K mg base "are_words" 1 ["value", "symbols", "least"] _ := ⟨_, _, o8, PySem.W.mg_of X G a8, k8, b8⟩
  have o9 := ok_form (P := l.prog) (w := w) (base := base) F9 T c_are_words
  have c_has_shape_form : Cal l.prog w K mg base "has_shape_form" 2 ["value", "states", "symbols"] _ := ⟨_, _, o9, PySem.W.mg_of X G a9, k9, b9⟩
  have o10 := ok_tape (P := l.prog) (w := w) (base := base) F10 T 
  have c_tape_of : Cal l.prog w K mg base "tape_of" 1 ["shape", "number"] _ := ⟨_, _, o10, PySem.W.mg_of X G a10, k10, b10⟩
  have o11 := ok_bare (P := l.prog) (w := w) (base := base) F11 T 
  have c_bare : Cal l.prog w K mg base "bare" 1 ["word"] _ := ⟨_, _, o11, PySem.W.mg_of X G a11, k11, b11⟩
  have o12 := ok_sinit (P := l.prog) (w := w) (base := base) F12 T 
  have c_Symbolic : CCal l.prog w K mg base "Symbolic" CS 1 ["self", "machine", "shape"] _ := ⟨_, _, o12, ⟨mkCS, a12, i12, kcCS⟩, PySem.W.mg_of X G aCS, b12⟩
  have o13 := ok_scross (P := l.prog) (w := w) (base := base) F13 T 
  have c_Symbolic_crossed : MCal l.prog w K mg base CS "crossed" 1 ["self", "word", "move"] _ := ⟨_, _, o13, ⟨a13, i13, k13⟩, b13⟩
  have o14 := ok_ssplit (P := l.prog) (w := w) (base := base) F14 T 
  have c_Symbolic_split : MCal l.prog w K mg base CS "split" 1 ["self", "ahead", "move"] _ := ⟨_, _, o14, ⟨a14, i14, k14⟩, b14⟩
  have o15 := ok_smove (P := l.prog) (w := w) (base := base) F15 T c_Symbolic_crossed c_Symbolic_split
  have c_Symbolic_move : MCal l.prog w K mg base CS "move" 2 ["self"] _ := ⟨_, _, o15, ⟨a15, i15, k15⟩, b15⟩
  have o16 := ok_sstand (P := l.prog) (w := w) (base := base) F16 T c_bare
  have c_Symbolic_stands_for : MCal l.prog w K mg base CS "stands_for" 2 ["self", "number"] _ := ⟨_, _, o16, ⟨a16, i16, k16⟩, b16⟩
  have o17 := ok_sret (P := l.prog) (w := w) (base := base) F17 T c_Symbolic_stands_for c_bare c_tape_of
  have c_Symbolic_returns : MCal l.prog w K mg base CS "returns" 3 ["self", "shape"] _ := ⟨_, _, o17, ⟨a17, i17, k17⟩, b17⟩
  have o18 := ok_sided (P := l.prog) (w := w) (base := base) F18 T c_mirrored
  have c_sided : Cal l.prog w K mg base "sided" 2 ["machine", "flipped"] _ := ⟨_, _, o18, PySem.W.mg_of X G a18, k18, b18⟩
  have o19 := ok_grows (P := l.prog) (w := w) (base := base) F19 T c_Symbolic c_Symbolic_move c_Symbolic_returns
  have c_grows : Cal l.prog w K mg base "grows" 4 ["machine", "shape"] _ := ⟨_, _, o19, PySem.W.mg_of X G a19, k19, b19⟩
  have o20 := ok_has (P := l.prog) (w := w) (base := base) F20 T c_sided c_Runner c_Runner_run c_Runner_cells c_Runner_tail c_bare c_tape_of c_grows
  have c_has_shape : Cal l.prog w K mg base "has_shape" 5 ["machine", "start", "shape"] _ := ⟨_, _, o20, PySem.W.mg_of X G a20, k20, b20⟩
  have o21 := ok_turns (P := l.prog) (w := w) (base := base) F21 T c_Runner c_Runner_symbol c_Runner_cells c_Runner_step
  have c_turns : Cal l.prog w K mg base "turns" 3 ["machine", "count"] _ := ⟨_, _, o21, PySem.W.mg_of X G a21, k21, b21⟩
  have o22 := ok_shared (P := l.prog) (w := w) (base := base) F22 T 
  have c_shared : Cal l.prog w K mg base "shared" 1 ["one", "two"] _ := ⟨_, _, o22, PySem.W.mg_of X G a22, k22, b22⟩
  have o23 := ok_pulled (P := l.prog) (w := w) (base := base) F23 T 
  have c_pulled : Cal l.prog w K mg base "pulled" 1 ["before", "behind", "repeat"] _ := ⟨_, _, o23, PySem.W.mg_of X G a23, k23, b23⟩
  have o24 := ok_finit (P := l.prog) (w := w) (base := base) F24 T c_sided
  have c_Finder : CCal l.prog w K mg base "Finder" CF 3 ["self", "machine", "flipped"] _ := ⟨_, _, o24, ⟨mkCF, a24, i24, kcCF⟩, PySem.W.mg_of X G aCF, b24⟩
  have o25 := ok_fatt (P := l.prog) (w := w) (base := base) F25 T c_has_shape_form c_bare c_tape_of c_grows
  have c_Finder_attempt : MCal l.prog w K mg base CF "attempt" 5 ["self", "turn", "first", "words", "repeats"] _ := ⟨_, _, o25, ⟨a25, i25, k25⟩, b25⟩
  have o26 := ok_fone (P := l.prog) (w := w) (base := base) F26 T c_shared c_pulled c_Finder_attempt
  have c_Finder_one_repeat : MCal l.prog w K mg base CF "one_repeat" 6 ["self", "early", "late"] _ := ⟨_, _, o26, ⟨a26, i26, k26⟩, b26⟩
  have o27 := ok_fsec (P := l.prog) (w := w) (base := base) F27 T c_shared c_tape_of c_Finder_attempt
  have c_Finder_second_repeat : MCal l.prog w K mg base CF "second_repeat" 6 ["self", "early", "middle", "late", "sizes"] _ := ⟨_, _, o27, ⟨a27, i27, k27⟩, b27⟩
  have o28 := ok_ftwo (P := l.prog) (w := w) (base := base) F28 T c_shared c_Finder_second_repeat
  have c_Finder_two_repeats : MCal l.prog w K mg base CF "two_repeats" 7 ["self", "early", "middle", "late"] _ := ⟨_, _, o28, ⟨a28, i28, k28⟩, b28⟩
  have o29 := ok_fgrow (P := l.prog) (w := w) (base := base) F29 T c_Finder_one_repeat c_Finder_two_repeats
  have c_Finder_grow : MCal l.prog w K mg base CF "grow" 8 ["self", "rows"] _ := ⟨_, _, o29, ⟨a29, i29, k29⟩, b29⟩
  have o30 := ok_flook (P := l.prog) (w := w) (base := base) F30 T c_turns c_Finder_grow
  have c_Finder_look : MCal l.prog w K mg base CF "look" 9 ["self", "count"] _ := ⟨_, _, o30, ⟨a30, i30, k30⟩, b30⟩
  have o31 := ok_find (P := l.prog) (w := w) (base := base) F31 T c_Finder c_Finder_look
  have c_find_shape : Cal l.prog w K mg base "find_shape" 10 ["machine", "count"] _ := ⟨_, _, o31, PySem.W.mg_of X G a31, k31, b31⟩
  have o32 := ok_lstream (P := l.prog) (w := w) (base := base) F32 T 
  have c_law_stream : Cal l.prog w K mg base "_law_stream" 1 ["_law_script"] _ := ⟨_, _, o32, PySem.W.mg_of X G a32, k32, b32⟩
  have o33 := ok_ldraw (P := l.prog) (w := w) (base := base) F33 T 
  have c_law_draw : Cal l.prog w K mg base "_law_draw" 1 ["_law_stream_here", "_law_many"] _ := ⟨_, _, o33, PySem.W.mg_of X G a33, k33, b33⟩
  have o34 := ok_lneed (P := l.prog) (w := w) (base := base) F34 T 
  have c_law_needed : Cal l.prog w K mg base "_law_needed" 1 ["_law_rows", "_law_steps"] _ := ⟨_, _, o34, PySem.W.mg_of X G a34, k34, b34⟩
  have o35 := ok_lgrown (P := l.prog) (w := w) (base := base) F35 T c_law_draw c_law_needed
  have c_law_grown_machine : Cal l.prog w K mg base "_law_grown_machine" 2 ["_law_stream_here"] _ := ⟨_, _, o35, PySem.W.mg_of X G a35, k35, b35⟩
  have o36 := ok_lmach (P := l.prog) (w := w) (base := base) F36 T c_law_draw c_law_grown_machine
  have c_law_machine : Cal l.prog w K mg base "_law_machine" 3 ["_law_stream_here"] _ := ⟨_, _, o36, PySem.W.mg_of X G a36, k36, b36⟩
  have o37 := ok_lmirr (P := l.prog) (w := w) (base := base) F37 T 
  have c_law_mirrored : Cal l.prog w K mg base "_law_mirrored" 1 ["_law_machine_here"] _ := ⟨_, _, o37, PySem.W.mg_of X G a37, k37, b37⟩
  have o38 := ok_lafter (P := l.prog) (w := w) (base := base) F38 T 
  have c_law_after : Cal l.prog w K mg base "_law_after" 1 ["_law_machine_here", "_law_now"] _ := ⟨_, _, o38, PySem.W.mg_of X G a38, k38, b38⟩
  have o39 := ok_lhist (P := l.prog) (w := w) (base := base) F39 T c_law_after
  have c_law_history : Cal l.prog w K mg base "_law_history" 2 ["_law_machine_here", "_law_count"] _ := ⟨_, _, o39, PySem.W.mg_of X G a39, k39, b39⟩
  have o40 := ok_ltape (P := l.prog) (w := w) (base := base) F40 T 
  have c_law_tape : Cal l.prog w K mg base "_law_tape" 1 ["_law_shape", "_law_number"] _ := ⟨_, _, o40, PySem.W.mg_of X G a40, k40, b40⟩
  have o41 := ok_lisat (P := l.prog) (w := w) (base := base) F41 T c_law_tape
  have c_law_is_at : Cal l.prog w K mg base "_law_is_at" 2 ["_law_now", "_law_shape", "_law_number"] _ := ⟨_, _, o41, PySem.W.mg_of X G a41, k41, b41⟩
  have o42 := ok_lsweep (P := l.prog) (w := w) (base := base) F42 T c_law_draw
  have c_law_sweeper : Cal l.prog w K mg base "_law_sweeper" 2 ["_law_stream_here"] _ := ⟨_, _, o42, PySem.W.mg_of X G a42, k42, b42⟩
  exact ok_law facts F43 T c_law_stream c_law_machine c_law_draw c_law_sweeper c_has_shape c_find_shape c_law_mirrored c_law_history c_law_is_at
theorem walk {l : PySem.W.OpenLaw} {q : Program} {loose : List Str} {XP : (Str → Option Value) → Heap → Prop} {YP : World → Heap → Prop} {d : DefRec} {K : Params → PySem.W.Frag} (hn : l.most = some 63) (hdf : d.params.defaults = [])
    (hY : ∀ (w : World) (h : Heap), YP w h → (K w.params).In h)
    (F : ∀ (w : World) (mg : Str → Option Value) (fa : Addr) (h : Heap), (K w.params).In h → h.Ns mainGlobals mg → mg d.name = some (.ref fa) →
      ∃ fd : FuncData, (∀ (s : Shared) (u : Value), BindsTo s fd ⟨[u], []⟩ [("_law_script", u)]) ∧ ∀ base : Heap, (K w.params).In base → base.Ns mainGlobals mg → FnOk l.prog w (K w.params) mg base CX0 11 fa fd ["_law_script"] (spLaw (K w.params))) :
    PySem.W.WalkO q loose XP YP l.row.toRowW d [] (fun f vs => PySem.call f vs) :=
  L2.walk_of (n := 63) (k := 11) (x := "_law_script") (CX := fun _ => CX0) (sp := fun w => spLaw (K w.params)) hn (by decide) hdf ⟨rfl, by decide, by decide⟩ hY F (fun _ _ a ns hl _ hS => ⟨a, ns, rfl, hS, hl, fun _ => rfl⟩) fun _ _ _ _ _ z => z
end Tac
open PySem PySem.W PyProof.Rows
set_option maxRecDepth 100000 in
set_option maxHeartbeats 0 in
theorem PySem.Challenge.cw_tacet_k49_whole_shapes_go_on_holds : PySem.Challenge.rw_tacet_k49_whole_shapes_go_on.Holds := by
  w_on; o_law; k_head; (case hw => w_witness2)
  k_fill
  refine Tac.walk (l := PySem.Challenge.rw_tacet_k49_whole_shapes_go_on) rfl rfl (fun w h Y => PySem.W.kIn_of Y) ?F
  case F =>
    intro w mg fa h KX G hmg
    refine' Tac.all_mk KX G hmg ?aCR ?aCS ?aCF ?a0 ?l0 ?c0 ?k0 ?a1 ?l1 ?c1 ?k1 ?at1 ?a2 ?i2 ?l2 ?c2 ?k2 ?a3 ?i3 ?l3 ?c3 ?k3 ?a4 ?i4 ?l4 ?c4 ?k4 ?a5 ?i5 ?l5 ?c5 ?k5 ?a6 ?i6 ?l6 ?c6 ?k6 ?a7 ?i7 ?l7 ?c7 ?k7 ?a8 ?l8 ?c8 ?k8 ?a9 ?l9 ?c9 ?k9 ?a10 ?l10 ?c10 ?k10 ?a11 ?l11 ?c11 ?k11 ?a12 ?i12 ?l12 ?c12 ?k12 ?a13 ?i13 ?l13 ?c13 ?k13 ?a14 ?i14 ?l14 ?c14 ?k14 ?a15 ?i15 ?l15 ?c15 ?k15 ?a16 ?i16 ?l16 ?c16 ?k16 ?a17 ?i17 ?l17 ?c17 ?k17 ?a18 ?l18 ?c18 ?k18 ?a19 ?l19 ?c19 ?k19 ?a20 ?l20 ?c20 ?k20 ?a21 ?l21 ?c21 ?k21 ?a22 ?l22 ?c22 ?k22 ?a23 ?l23 ?c23 ?k23 ?a24 ?i24 ?l24 ?c24 ?k24 ?a25 ?i25 ?l25 ?c25 ?k25 ?a26 ?i26 ?l26 ?c26 ?k26 ?a27 ?i27 ?l27 ?c27 ?k27 ?a28 ?i28 ?l28 ?c28 ?k28 ?a29 ?i29 ?l29 ?c29 ?k29 ?a30 ?i30 ?l30 ?c30 ?k30 ?a31 ?l31 ?c31 ?k31 ?a32 ?l32 ?c32 ?k32 ?a33 ?l33 ?c33 ?k33 ?a34 ?l34 ?c34 ?k34 ?a35 ?l35 ?c35 ?k35 ?a36 ?l36 ?c36 ?k36 ?a37 ?l37 ?c37 ?k37 ?a38 ?l38 ?c38 ?k38 ?a39 ?l39 ?c39 ?k39 ?a40 ?l40 ?c40 ?k40 ?a41 ?l41 ?c41 ?k41 ?a42 ?l42 ?c42 ?k42 ?a43 ?l43 ?c43 ?k43 ?pgCR ?hdCR ?poCR ?saCR ?mkCR ?kcCR ?nCR_machine ?nCR_tape ?nCR_place ?nCR_state ?nCR_steps ?pgCS ?hdCS ?poCS ?saCS ?mkCS ?kcCS ?nCS_machine ?nCS_first ?nCS_state ?nCS_symbol ?nCS_left ?nCS_right ?pgCF ?hdCF ?poCF ?saCF ?mkCF ?kcCF ?nCF_machine ?nCF_flipped ?nCF_tried ?z_len ?z_range ?z_tuple ?z_list ?z_dict ?z_enumerate ?z_isinstance ?z_sorted ?z_any ?z_max ?z_min ?z_abs ?z_int ?z_bool ?z_STOP ?z_MOST_REPEATS ?z_MOST_WORD ?z_MOST_FIRST ?z_MOST_MOVES ?z_MOST_CROSSING ?z_MOST_TURNS ?z_MOST_LENGTH ?z_MOST_GROWTH
    (case aCR => k_is)
    (case aCS => k_is)
    (case aCF => k_is)
    (case a0 => k_is)
    (case l0 => k_is)
    (case c0 => k_is)
    (case k0 => k_is)
    (case a1 => k_is)
    (case l1 => k_is)
    (case c1 => k_is)
    (case k1 => k_is)
    (case at1 => k_is)
    (case a2 => k_is)
    (case i2 => k_is)
    (case l2 => k_is)
    (case c2 => k_is)
    (case k2 => k_is)
    (case a3 => k_is)
    (case i3 => k_is)
    (case l3 => k_is)
    (case c3 => k_is)
    (case k3 => k_is)
    (case a4 => k_is)
    (case i4 => k_is)
    (case l4 => k_is)
    (case c4 => k_is)
    (case k4 => k_is)
    (case a5 => k_is)
    (case i5 => k_is)
    (case l5 => k_is)
    (case c5 => k_is)
    (case k5 => k_is)
    (case a6 => k_is)
    (case i6 => k_is)
    (case l6 => k_is)
    (case c6 => k_is)
    (case k6 => k_is)
    (case a7 => k_is)
    (case i7 => k_is)
    (case l7 => k_is)
    (case c7 => k_is)
    (case k7 => k_is)
    (case a8 => k_is)
    (case l8 => k_is)
    (case c8 => k_is)
    (case k8 => k_is)
    (case a9 => k_is)
    (case l9 => k_is)
    (case c9 => k_is)
    (case k9 => k_is)
    (case a10 => k_is)
    (case l10 => k_is)
    (case c10 => k_is)
    (case k10 => k_is)
    (case a11 => k_is)
    (case l11 => k_is)
    (case c11 => k_is)
    (case k11 => k_is)
    (case a12 => k_is)
    (case i12 => k_is)
    (case l12 => k_is)
    (case c12 => k_is)
    (case k12 => k_is)
    (case a13 => k_is)
    (case i13 => k_is)
    (case l13 => k_is)
    (case c13 => k_is)
    (case k13 => k_is)
    (case a14 => k_is)
    (case i14 => k_is)
    (case l14 => k_is)
    (case c14 => k_is)
    (case k14 => k_is)
    (case a15 => k_is)
    (case i15 => k_is)
    (case l15 => k_is)
    (case c15 => k_is)
    (case k15 => k_is)
    (case a16 => k_is)
    (case i16 => k_is)
    (case l16 => k_is)
    (case c16 => k_is)
    (case k16 => k_is)
    (case a17 => k_is)
    (case i17 => k_is)
    (case l17 => k_is)
    (case c17 => k_is)
    (case k17 => k_is)
    (case a18 => k_is)
    (case l18 => k_is)
    (case c18 => k_is)
    (case k18 => k_is)
    (case a19 => k_is)
    (case l19 => k_is)
    (case c19 => k_is)
    (case k19 => k_is)
    (case a20 => k_is)
    (case l20 => k_is)
    (case c20 => k_is)
    (case k20 => k_is)
    (case a21 => k_is)
    (case l21 => k_is)
    (case c21 => k_is)
    (case k21 => k_is)
    (case a22 => k_is)
    (case l22 => k_is)
    (case c22 => k_is)
    (case k22 => k_is)
    (case a23 => k_is)
    (case l23 => k_is)
    (case c23 => k_is)
    (case k23 => k_is)
    (case a24 => k_is)
    (case i24 => k_is)
    (case l24 => k_is)
    (case c24 => k_is)
    (case k24 => k_is)
    (case a25 => k_is)
    (case i25 => k_is)
    (case l25 => k_is)
    (case c25 => k_is)
    (case k25 => k_is)
    (case a26 => k_is)
    (case i26 => k_is)
    (case l26 => k_is)
    (case c26 => k_is)
    (case k26 => k_is)
    (case a27 => k_is)
    (case i27 => k_is)
    (case l27 => k_is)
    (case c27 => k_is)
    (case k27 => k_is)
    (case a28 => k_is)
    (case i28 => k_is)
    (case l28 => k_is)
    (case c28 => k_is)
    (case k28 => k_is)
    (case a29 => k_is)
    (case i29 => k_is)
    (case l29 => k_is)
    (case c29 => k_is)
    (case k29 => k_is)
    (case a30 => k_is)
    (case i30 => k_is)
    (case l30 => k_is)
    (case c30 => k_is)
    (case k30 => k_is)
    (case a31 => k_is)
    (case l31 => k_is)
    (case c31 => k_is)
    (case k31 => k_is)
    (case a32 => k_is)
    (case l32 => k_is)
    (case c32 => k_is)
    (case k32 => k_is)
    (case a33 => k_is)
    (case l33 => k_is)
    (case c33 => k_is)
    (case k33 => k_is)
    (case a34 => k_is)
    (case l34 => k_is)
    (case c34 => k_is)
    (case k34 => k_is)
    (case a35 => k_is)
    (case l35 => k_is)
    (case c35 => k_is)
    (case k35 => k_is)
    (case a36 => k_is)
    (case l36 => k_is)
    (case c36 => k_is)
    (case k36 => k_is)
    (case a37 => k_is)
    (case l37 => k_is)
    (case c37 => k_is)
    (case k37 => k_is)
    (case a38 => k_is)
    (case l38 => k_is)
    (case c38 => k_is)
    (case k38 => k_is)
    (case a39 => k_is)
    (case l39 => k_is)
    (case c39 => k_is)
    (case k39 => k_is)
    (case a40 => k_is)
    (case l40 => k_is)
    (case c40 => k_is)
    (case k40 => k_is)
    (case a41 => k_is)
    (case l41 => k_is)
    (case c41 => k_is)
    (case k41 => k_is)
    (case a42 => k_is)
    (case l42 => k_is)
    (case c42 => k_is)
    (case k42 => k_is)
    (case a43 => k_is)
    (case l43 => k_is)
    (case c43 => k_is)
    (case k43 => k_is)
    (case pgCR => k_is)
    (case hdCR => k_is)
    (case poCR => k_is)
    (case saCR => k_is)
    (case mkCR => k_is)
    (case kcCR => k_is)
    (case nCR_machine => k_is)
    (case nCR_tape => k_is)
    (case nCR_place => k_is)
    (case nCR_state => k_is)
    (case nCR_steps => k_is)
    (case pgCS => k_is)
    (case hdCS => k_is)
    (case poCS => k_is)
    (case saCS => k_is)
    (case mkCS => k_is)
    (case kcCS => k_is)
    (case nCS_machine => k_is)
    (case nCS_first => k_is)
    (case nCS_state => k_is)
    (case nCS_symbol => k_is)
    (case nCS_left => k_is)
    (case nCS_right => k_is)
    (case pgCF => k_is)
    (case hdCF => k_is)
    (case poCF => k_is)
    (case saCF => k_is)
    (case mkCF => k_is)
    (case kcCF => k_is)
    (case nCF_machine => k_is)
    (case nCF_flipped => k_is)
    (case nCF_tried => k_is)
    (case z_len => k_is)
    (case z_range => k_is)
    (case z_tuple => k_is)
    (case z_list => k_is)
    (case z_dict => k_is)
    (case z_enumerate => k_is)
    (case z_isinstance => k_is)
    (case z_sorted => k_is)
    (case z_any => k_is)
    (case z_max => k_is)
    (case z_min => k_is)
    (case z_abs => k_is)
    (case z_int => k_is)
    (case z_bool => k_is)
    (case z_STOP => k_is)
    (case z_MOST_REPEATS => k_is)
    (case z_MOST_WORD => k_is)
    (case z_MOST_FIRST => k_is)
    (case z_MOST_MOVES => k_is)
    (case z_MOST_CROSSING => k_is)
    (case z_MOST_TURNS => k_is)
    (case z_MOST_LENGTH => k_is)
    (case z_MOST_GROWTH => k_is)
#print axioms PySem.Challenge.cw_tacet_k49_whole_shapes_go_on_holds
